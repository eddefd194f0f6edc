/-
  Operations that do not change memory, and stores.
-/
import Derived.Test.YtppdfjdfjfoddaaEvRun
import Derived.Laws.Strings
import Derived.Laws.Tables
import Derived.Great.BuildSlice
import Derived.Laws.BytesString
import Derived.Lib.ConvBytes
set_option linter.unusedSimpArgs false
set_option linter.unusedVariables false
namespace Go.Proofs.Ytppdfjdfjfoddaa
namespace Ev
variable {G : Gnd}
theorem PP {v : Value} {a : A} (he : jO v = some a) (h : H) (ρ : Rho) (w : World) (I : Nat → Prop) : AR h ρ w I a v := by
 unfold jO at he
 split at he <;> first
  | cases he
 all_goals simp only [AR,DR]
 exact ⟨none,rfl⟩
theorem YZ : ∀ {vs : List Value} {as : List A},yD vs = some as → ∀ (h : H) (ρ : Rho) (w : World) (I : Nat → Prop),ARv h ρ w I as vs
 | [],as,he,h,ρ,w,I => by simp only [yD,Option.some.injEq] at he; subst he; simp only [ARv]
 | v :: vs,as,he,h,ρ,w,I => by
  simp only [yD] at he
  split at he
  ·rename_i a as' ha has
   cases he
   simp only [ARv]
   exact ⟨v,vs,rfl,PP ha h ρ w I,YZ has h ρ w I⟩
  ·cases he
theorem aD4 {v : Value} {a : A} (he : IT v = some a) (h : H) (ρ : Rho) (w : World) (I : Nat → Prop) : AR h ρ w I a v := by
 unfold IT at he
 split at he
 ·rename_i cs
  simp only [Option.map_eq_some_iff] at he
  obtain ⟨as,has,rfl⟩ := he
  simp only [AR]
  exact ⟨cs,rfl,YZ has h ρ w I⟩
 ·exact PP he h ρ w I
theorem aAI {s : List A} {x : Operand} {a : A} (he : dG s x = some a) {h : H} {ρ : Rho} {w : World} {I : Nat → Prop} {act : Act} (hs : ARv h ρ w I s act.tmps.toList) : AR h ρ w I a (act.eval x) := by
 cases x with
 | tmp t =>
  simp only [dG,Option.some.injEq] at he
  subst he
  simp only [Act.eval]
  obtain ⟨hl,hall⟩ := (iB _ _).1 hs
  rcases Nat.lt_or_ge t s.length with hlt | hge
  ·obtain ⟨v,hv,ha⟩ := hall t s[t] (by simp)
   have e1 : s.getD t (.d .undef) = s[t] := by simp [hlt]
   have e2 : act.tmps.getD t undef = v := by
    have : act.tmps[t]? = some v := by simpa using hv
    rw [Array.getD_eq_getD_getElem?,this]; rfl
   rw [e1,e2]; exact ha
  ·have e1 : s.getD t (.d .undef) = .d .undef := by simp [List.getD_eq_getElem?_getD,List.getElem?_eq_none hge]
   have e2 : act.tmps.getD t undef = undef := by
    rw [Array.getD_eq_getD_getElem?,Array.getElem?_eq_none (by simpa [hl] using hge)]; rfl
   rw [e1,e2]; simp only [AR,DR]
 | const v => exact aD4 he h ρ w I
 | func f =>
  simp only [dG,Option.some.injEq] at he
  subst he
  simp only [Act.eval,AR]
  exact ⟨#[],rfl,by simp only [ARv]⟩
 | global g => cases he
theorem TK {s : List A} {h : H} {ρ : Rho} {w : World} {I : Nat → Prop} {act : Act} (hs : ARv h ρ w I s act.tmps.toList) : ∀ {xs : List Operand} {as : List A},bY s xs = some as → ARv h ρ w I as (xs.map act.eval)
 | [],as,he => by simp only [bY,Option.some.injEq] at he; subst he; simp only [List.map_nil,ARv]
 | x :: xs,as,he => by
  simp only [bY] at he
  split at he
  ·rename_i a as' ha has
   cases he
   simp only [List.map_cons,ARv]
   exact ⟨_,_,rfl,aAI ha hs,TK hs has⟩
  ·cases he
section shapes
variable {h : H} {ρ : Rho} {w : World} {I : Nat → Prop}
theorem aCJ {a : A} {v : Value} (ha : AR h ρ w I a v) (ho : cT a = true) : v.oneCell' = true := by
 cases a with
 | d x =>
  simp only [AR] at ha
  cases x <;> simp only [DR] at ha
  all_goals first
   | (simp [cT] at ho; done)
   | (subst ha; rfl)
   | (obtain ⟨_,_,rfl,_⟩ := ha; rfl)
   | (obtain ⟨_,rfl,_⟩ := ha; rfl)
   | (obtain ⟨_,rfl⟩ := ha; rfl)
 | sl id gen off len => simp only [AR] at ha; obtain ⟨_,_,rfl,_⟩ := ha; rfl
 | ptr id gen off => simp only [AR] at ha; obtain ⟨_,rfl,_⟩ := ha; rfl
 | mp id => simp only [AR] at ha; obtain ⟨_,rfl,_⟩ := ha; rfl
 | clo f caps => simp only [AR] at ha; obtain ⟨_,rfl,_⟩ := ha; rfl
 | agg cs => simp [cT] at ho
 | tup cs => simp [cT] at ho
 | junk => simp [cT] at ho
theorem aLV {v : Value} (ho : v.oneCell' = true) : v.cells = #[v] := by
 cases v <;> first | rfl | simp [Value.oneCell'] at ho
theorem aAd {a : A} {v : Value} (ha : AR h ρ w I a v) (ho : (aQ a).all cT = true) : ARv h ρ w I (aQ a) v.cells.toList ∧ ∀ u ∈ v.cells.toList,u.oneCell' = true := by
 have single : cT a = true → aQ a = [a] → ARv h ρ w I (aQ a) v.cells.toList ∧ ∀ u ∈ v.cells.toList,u.oneCell' = true := by
  intro hk hc
  have h1 := aCJ ha hk
  rw [hc,aLV h1]
  exact ⟨by simp only [ARv]; exact ⟨v,[],rfl,ha,rfl⟩,fun u hu => by simp at hu; subst hu; exact h1⟩
 cases a with
 | agg cs =>
  simp only [AR] at ha
  obtain ⟨C,rfl,hc⟩ := ha
  refine ⟨hc,fun u hu => ?_⟩
  obtain ⟨k,hk,hk'⟩ := List.getElem_of_mem hu
  obtain ⟨hl,hall⟩ := (iB _ _).1 hc
  have hk2 : k < cs.length := by
   have : C.toList.length = cs.length := hl.symm
   have e : (Value.agg C).cells.toList = C.toList := rfl
   simp only [e] at hk
   omega
  obtain ⟨u',hu',ha'⟩ := hall k cs[k] (by simp)
  have e : u' = u := by
   have e1 : (Value.agg C).cells.toList[k]? = some u := by rw [← hk']; simp
   have e2 : C.toList[k]? = some u := e1
   rw [hu'] at e2; exact Option.some.inj e2
  subst e
  exact aCJ ha' (by
   have := List.all_eq_true.1 ho cs[k] (by simp [aQ])
   exact this)
 | d x => exact single (by simpa [aQ] using ho) rfl
 | sl id gen off len => exact single (by simpa [aQ] using ho) rfl
 | ptr id gen off => exact single (by simpa [aQ] using ho) rfl
 | mp id => exact single (by simpa [aQ] using ho) rfl
 | clo f caps => exact single (by simpa [aQ] using ho) rfl
 | tup cs => exact single (by simpa [aQ] using ho) rfl
 | junk => exact single (by simpa [aQ] using ho) rfl
theorem j9 {as : List A} {vs : List Value} (ha : ARv h ρ w I as vs) : as.length = vs.length := ((iB _ _).1 ha).1
theorem aGh {as : List A} {vs : List Value} (n : Nat) (ha : ARv h ρ w I as vs) : ARv h ρ w I (as.drop n) (vs.drop n) := by
 rw [iB] at ha ⊢
 refine ⟨by simp [ha.1],fun k a hk => ?_⟩
 simpa using ha.2 (n + k) a (by simpa using hk)
theorem aG5 {as : List A} {vs : List Value} (n : Nat) (ha : ARv h ρ w I as vs) : ARv h ρ w I (as.take n) (vs.take n) := by
 rw [iB] at ha ⊢
 refine ⟨by simp [ha.1],fun k a hk => ?_⟩
 rw [List.getElem?_take] at hk ⊢
 split at hk
 ·rename_i hlt; rw [if_pos hlt]; exact ha.2 k a hk
 ·cases hk
theorem vC {as bs : List A} {vs us : List Value} (ha : ARv h ρ w I as vs) (hb : ARv h ρ w I bs us) : ARv h ρ w I (as ++ bs) (vs ++ us) := by
 induction as generalizing vs with
 | nil => simp only [ARv] at ha; subst ha; simpa using hb
 | cons a as ih =>
  simp only [ARv] at ha
  obtain ⟨v,rest,rfl,h1,h2⟩ := ha
  simp only [List.cons_append,ARv]
  exact ⟨v,rest ++ us,rfl,h1,ih h2⟩
theorem aJG {P : Program} {t : TypeId} {cs : List A} {C : Array Value} {off : Nat} {b : Bool} {x : A} (hb : bW P t = some b) (he : vB b (P.cellsOf t) (cs.drop off) = some x) (hc : ARv h ρ w I cs C.toList) :
  ∃ u,(part t C off).run P w = .ok u w ∧ AR h ρ w I x u := by
 have hinfo : ∃ i,P.info? t = some i := by
  unfold bW at hb
  cases hu : P.underlying t with
  | none => rw [hu] at hb; cases hb
  | some d => exact PS hu
 obtain ⟨i,hi⟩ := hinfo
 unfold vB at he
 cases b with
 | true =>
  rw [if_pos rfl] at he
  split at he
  ·cases he
   refine ⟨.agg (C.extract off (off + P.cellsOf t)),by simp [part,LO hb,eA hi],?_⟩
   simp only [AR]
   refine ⟨_,rfl,?_⟩
   have := aG5 (P.cellsOf t) (aGh off hc)
   have e : (C.extract off (off + P.cellsOf t)).toList = (C.toList.drop off).take (P.cellsOf t) := by
    simp [List.extract_eq_take_drop]
   rw [e]; exact this
  ·cases he
 | false =>
  simp only [Bool.false_eq_true,if_false] at he
  rw [List.head?_drop] at he
  obtain ⟨u,hu,hau⟩ := ((iB _ _).1 hc).2 off x he
  have hu' : C[off]? = some u := by simpa using hu
  exact ⟨u,by simp [part,LO hb,hu'],hau⟩
theorem aDt {P : Program} {b o : Nat} {f : Field} (hs : P.cellsOf f.type ≠ 0) : (fieldPlace ⟨b,o,none⟩ f).run P w = .ok ⟨b,o + f.offset,none⟩ w := by
 have hi : ∃ i,P.info? f.type = some i := by
  cases hi : P.info? f.type with
  | none => exfalso; apply hs; simp [Program.cellsOf,hi]
  | some i => exact ⟨i,rfl⟩
 obtain ⟨i,hi⟩ := hi
 simp [fieldPlace,eA hi,hs,qI]
theorem aJh {a x : A} {off : Nat} {v : Value} (he : vA off a = some x) (ha : AR h ρ w I a v) : ∃ b o,v = .pointer (some ⟨b,o,none⟩) ∧ AR h ρ w I x (.pointer (some ⟨b,o + off,none⟩)) := by
 cases a with
 | ptr id gen o =>
  simp only [vA,Option.some.injEq] at he
  subst he
  simp only [AR] at ha ⊢
  obtain ⟨b,rfl,hp⟩ := ha
  exact ⟨b,o,rfl,b,rfl,hp⟩
 | d y =>
  cases y with
  | iptr cs =>
   simp only [vA] at he
   split at he
   ·cases he
    simp only [AR,DR] at ha ⊢
    obtain ⟨b,o,rfl,hI,hd⟩ := ha
    exact ⟨b,o,rfl,b,o + off,rfl,hI,oK off hd⟩
   ·cases he
  | _ => simp [vA] at he
 | _ => simp [vA] at he
theorem aG8 {P : Program} {t : TypeId} {f off : Nat} {ft : TypeId} {a x : A} {v : Value} (hf : bA P t f = some (off,ft)) (he : vA off a = some x) (ha : AR h ρ w I a v) :
  ∃ u,(Instr.fieldAt t v f).run P w = .ok u w ∧ AR h ρ w I x u := by
 unfold bA at hf
 split at hf
 ·rename_i fields hu
  split at hf
  ·rename_i fd hfd
   split at hf
   ·cases hf
   ·rename_i hs
    cases hf
    obtain ⟨b,o,rfl,hx⟩ := aJh he ha
    refine ⟨_,?_,hx⟩
    simp [Instr.fieldAt,aT hu,hfd,Instr.sureAddr,aDt (w := w) hs]
  ·cases hf
 ·cases hf
theorem aO6 {P : Program} {t : TypeId} {f off : Nat} {ft : TypeId} {cs : List A} {x : A} {b : Bool} {v : Value} (hf : bA P t f = some (off,ft)) (hb : bW P ft = some b) (he : vB b (P.cellsOf ft) (cs.drop off) = some x) (ha : AR h ρ w I (.agg cs) v) :
  ∃ u,(Instr.field t v f).run P w = .ok u w ∧ AR h ρ w I x u := by
 unfold bA at hf
 split at hf
 ·rename_i fields hu
  split at hf
  ·rename_i fd hfd
   split at hf
   ·cases hf
   ·cases hf
    simp only [AR] at ha
    obtain ⟨C,rfl,hc⟩ := ha
    obtain ⟨u,hu',hx⟩ := aJG hb he hc
    exact ⟨u,by simp [Instr.field,aT hu,hfd,asAgg,hu'],hx⟩
  ·cases hf
 ·cases hf
theorem aOV {P : Program} {t : TypeId} {a x : A} {k : IntKind} {i : Int} {v : Value} (he : OY P t a i = some x) (ha : AR h ρ w I a v) :
  ∃ u,(Instr.index t v (.int k i)).run P w = .ok u w ∧ AR h ρ w I x u := by
 unfold OY at he
 split at he
 ·rename_i s hu
  split at he
  ·rename_i h0
   simp only [Option.map_eq_some_iff] at he
   obtain ⟨b,hb,rfl⟩ := he
   simp only [AR,DR] at ha
   subst ha
   have hlt := (List.getElem?_eq_some_iff.1 hb).1
   have hb2 : (⟨s.toArray⟩ : ByteArray)[i.toNat]? = some b := by
    have hsz : i.toNat < (⟨s.toArray⟩ : ByteArray).size := by simpa [ByteArray.size] using hlt
    rw [getElem?_pos (⟨s.toArray⟩ : ByteArray) i.toNat hsz]
    have : (⟨s.toArray⟩ : ByteArray)[i.toNat] = s[i.toNat] := rfl
    rw [this,(List.getElem?_eq_some_iff.1 hb).2]
   refine ⟨.int .u8 b.toNat,?_,by simp only [AR,DR]⟩
   simp [Instr.index,asIntOf,aT hu,h0,hb2]
  ·cases he
 ·rename_i n e cs hu
  split at he
  ·rename_i hi
   simp only [Option.bind_eq_some_iff] at he
   obtain ⟨b,hb,he⟩ := he
   simp only [AR] at ha
   obtain ⟨C,rfl,hc⟩ := ha
   obtain ⟨u,hu',hx⟩ := aJG hb he hc
   have hinfo : ∃ j,P.info? e = some j := by
    unfold bW at hb
    cases hu : P.underlying e with
    | none => rw [hu] at hb; cases hb
    | some d => exact PS hu
   obtain ⟨j,hj⟩ := hinfo
   exact ⟨u,by simp [Instr.index,asIntOf,aT hu,hi,eA hj,hu'],hx⟩
  ·cases he
 ·cases he
end shapes
end Ev
end Go.Proofs.Ytppdfjdfjfoddaa
namespace Go.Proofs.Ytppdfjdfjfoddaa
namespace Ev
variable {G : Gnd}
section
variable {P : Program} {h : H} {ρ : Rho} {w : World} {I : Nat → Prop}
theorem sS {e : TypeId} (hp : 0 < P.cellsOf e) : ∃ i,P.info? e = some i := by
 cases hi : P.info? e with
 | none => exfalso; simp [Program.cellsOf,hi] at hp
 | some i => exact ⟨i,rfl⟩
theorem aF6 {t : TypeId} {a x : A} {k : IntKind} {i : Int} {v : Value} (he : rT P h t a i = some x) (ha : AR h ρ w I a v) :
  ∃ u,(Instr.indexAt t v (.int k i)).run P w = .ok u w ∧ AR h ρ w I x u := by
 unfold rT at he
 split at he
 ·rename_i n e hu
  split at he
  ·rename_i hc
   obtain ⟨j,hj⟩ := sS hc.1
   obtain ⟨b,o,rfl,hx⟩ := aJh he ha
   refine ⟨_,?_,hx⟩
   simp [Instr.indexAt,asIntOf,aT hu,Instr.sureAddr,hc.2,eA hj,qI]
  ·cases he
 ·rename_i e hu
  split at he
  ·rename_i n cs
   split at he
   ·rename_i hc
    obtain ⟨j,hj⟩ := sS hc.1
    cases he
    simp only [AR,DR] at ha ⊢
    obtain ⟨a,cap,rfl,hcap,hcs⟩ := ha
    rcases hcs with hcs | ⟨b,o,rfl,hI,hd⟩
    ·subst hcs; simp at hc
    ·refine ⟨.pointer (some ⟨b,o + i.toNat * P.cellsOf e,none⟩),?_,b,_,rfl,hI,oK _ hd⟩
     simp [Instr.indexAt,asIntOf,aT hu,hc.2.1,hc.2.2.1,eA hj,qI]
   ·cases he
  ·rename_i id gen off len
   simp only [AR] at ha
   obtain ⟨a,cap,rfl,hs⟩ := ha
   have run : ∀ (b : Nat) (esz : Nat),a = some ⟨b,off,none⟩ → esz = P.cellsOf e → 0 < esz → 0 ≤ i → i < len → (Instr.indexAt t (.slice a len cap) (.int k i)).run P w = .ok (.pointer (some ⟨b,off + i.toNat * esz,none⟩)) w := by
    intro b esz ha he hpos h0 h1
    subst ha; subst he
    obtain ⟨j,hj⟩ := sS hpos
    simp [Instr.indexAt,asIntOf,aT hu,h0,h1,eA hj,qI]
   cases hid : h[id]? with
   | none => rw [hid] at he; cases he
   | some o =>
    rw [hid] at he
    cases o with
    | box cs => cases he
    | mp es => cases he
    | void => cases he
    | arr cs esz g =>
     simp only [] at he
     split at he
     ·rename_i hc
      cases he
      simp only [slOK,hid] at hs
      have h2 := (hs.2 hc.1.symm).2
      have h1 := (hs.2 hc.1.symm).1
      cases hρ : ρ id with
      | none => rw [hρ] at h2; simp only [] at h2; omega
      | some b =>
       rw [hρ] at h2
       rcases h2 with h2 | h2
       ·omega
       ·exact ⟨_,run b esz h2.1 hc.2.1 hc.2.2.1 hc.2.2.2.1 hc.2.2.2.2,by simp only [AR]; exact ⟨b,rfl,by simp only [ptOK,hid]; exact ⟨hs.1,fun _ => hρ⟩⟩⟩
     ·cases he
    | vec cs esz g =>
     simp only [] at he
     split at he
     ·rename_i hc
      cases he
      simp only [slOK,hid] at hs
      have h2 := (hs.2 hc.1.symm).2
      have h1 := (hs.2 hc.1.symm).1
      cases hρ : ρ id with
      | none => rw [hρ] at h2; simp only [] at h2; omega
      | some b =>
       rw [hρ] at h2
       rcases h2 with h2 | h2
       ·omega
       ·exact ⟨_,run b esz h2.1 hc.2.1 hc.2.2.1 hc.2.2.2.1 hc.2.2.2.2,by simp only [AR]; exact ⟨b,rfl,by simp only [ptOK,hid]; exact ⟨hs.1,fun _ => hρ⟩⟩⟩
     ·cases he
    | ice cs esz g =>
     simp only [] at he
     split at he
     ·rename_i hc
      cases he
      simp only [slOK,hid] at hs
      rcases (hs.2 hc.1.symm).2 with h2 | ⟨_,b,hb,hI,hd⟩
      ·omega
      ·exact ⟨_,run b esz hb hc.2.1 hc.2.2.1 hc.2.2.2.1 hc.2.2.2.2,by simp only [AR]; exact ⟨b,rfl,by simp only [ptOK,hid]; exact ⟨hs.1,fun _ => ⟨hI,hd⟩⟩⟩⟩
     ·cases he
  ·cases he
 ·cases he
def optV (k : IntKind) (o : Option Int) : Option Value := o.map (.int k)
theorem ME {n cap : Nat} {lo hi : Option Int} {l u : Nat} (isS : Bool) (he : sR n lo hi = some (l,u)) (hcap : n ≤ cap) (k k' : IntKind) :
  (Instr.sliceBounds isS n cap (optV k lo) (optV k' hi) none).run P w = .ok (l,u,cap) w ∧ l ≤ u ∧ u ≤ n := by
 unfold sR at he
 split at he
 ·rename_i hc
  cases he
  obtain ⟨h1,h2,h3⟩ := hc
  refine ⟨?_,by omega,by omega⟩
  cases lo with
  | none =>
   cases hi with
   | none => simp [Instr.sliceBounds,optV]
   | some b =>
    simp only [Option.getD_some,Option.getD_none] at h2 h3
    simp [Instr.sliceBounds,optV,Instr.sliceBound,asIntOf,show (0 : Int) ≤ b ∧ b ≤ cap from ⟨by omega,by omega⟩]
  | some a =>
   cases hi with
   | none =>
    simp only [Option.getD_some,Option.getD_none] at h1 h2
    simp [Instr.sliceBounds,optV,Instr.sliceBound,asIntOf,show (0 : Int) ≤ a ∧ a ≤ n from ⟨h1,h2⟩]
   | some b =>
    simp only [Option.getD_some] at h1 h2 h3
    obtain ⟨a',rfl⟩ := Int.eq_ofNat_of_zero_le h1
    obtain ⟨b',rfl⟩ := Int.eq_ofNat_of_zero_le (Int.le_trans h1 h2)
    have e1 : b' ≤ cap := by omega
    have e2 : a' ≤ b' := by omega
    simp [Instr.sliceBounds,optV,Instr.sliceBound,asIntOf,e1,e2]
 ·cases he
theorem QU {t : TypeId} {a x : A} {lo hi : Option Int} {v : Value} (k k' : IntKind) (he : gS P h t a lo hi = some x) (ha : AR h ρ w I a v) :
  ∃ u,(Instr.sliceAt t v (optV k lo) (optV k' hi) none).run P w = .ok u w ∧ AR h ρ w I x u := by
 unfold gS at he
 split at he
 ·rename_i s hu
  simp only [Option.map_eq_some_iff] at he
  obtain ⟨⟨l,u⟩,hb,rfl⟩ := he
  simp only [AR,DR] at ha ⊢
  subst ha
  have hsz : (⟨s.toArray⟩ : ByteArray).size = s.length := by simp [ByteArray.size]
  obtain ⟨h1,h2,h3⟩ := ME (P := P) (w := w) false hb (Nat.le_refl _) k k'
  rw [← hsz] at h1
  refine ⟨.string ((⟨s.toArray⟩ : ByteArray).extract l u),by simp only [Instr.sliceAt,Instr.slice,Sem.run_bind,aT hu]; simp [aT hu,h1],?_⟩
  congr 1
  have e : ((⟨s.toArray⟩ : ByteArray).extract l u).data.toList = (s.drop l).take (u - l) := by
   simp [ByteArray.data_extract,List.extract_eq_take_drop]
  cases hx : (⟨s.toArray⟩ : ByteArray).extract l u with
  | mk d => rw [hx] at e; simp only at e; rw [← e]
 ·rename_i e n cs hu
  split at he
  ·rename_i hpos
   simp only [Option.map_eq_some_iff] at he
   obtain ⟨⟨l,u⟩,hb,rfl⟩ := he
   simp only [AR,DR] at ha ⊢
   obtain ⟨a,cap,rfl,hcap,hcs⟩ := ha
   obtain ⟨h1,h2,h3⟩ := ME (P := P) (w := w) true hb hcap k k'
   obtain ⟨j,hj⟩ := sS hpos
   refine ⟨.slice (if cap = l then a else a.map (·.add (l * P.cellsOf e))) (u - l) (cap - l),by simp only [Instr.sliceAt,Instr.slice,Sem.run_bind,aT hu]; simp [aT hu,h1,eA hj],_,_,rfl,by omega,?_⟩
   rcases hcs with rfl | ⟨b,o,rfl,hI,hd⟩
   ·exact .inl (by simp)
   ·by_cases hcl : cap = l
    ·exact .inl (by rw [show u - l = 0 from by omega]; simp)
    ·refine .inr ⟨b,o + l * P.cellsOf e,by simp [hcl,qI],hI,CZ _ (oK _ hd)⟩
  ·cases he
 ·rename_i e id gen off len hu
  split at he
  ·rename_i cs esz g hid
   split at he
   ·rename_i hc
    simp only [Option.map_eq_some_iff] at he
    obtain ⟨⟨l,u⟩,hb,rfl⟩ := he
    simp only [AR] at ha ⊢
    obtain ⟨a,cap,rfl,hs⟩ := ha
    simp only [slOK,hid] at hs
    have h4 := hs.2 hc.1.symm
    obtain ⟨h1,h2,h3⟩ := ME (P := P) (w := w) true hb h4.1 k k'
    obtain ⟨j,hj⟩ := sS hc.2.1
    refine ⟨.slice (if cap = l then a else a.map (·.add (l * P.cellsOf e))) (u - l) (cap - l),by simp only [Instr.sliceAt,Instr.slice,Sem.run_bind,aT hu]; simp [aT hu,h1,eA hj],_,_,rfl,?_⟩
    simp only [slOK,hid]
    refine ⟨hs.1,fun hg => ⟨by omega,?_⟩⟩
    have h5 := h4.2
    cases hρ : ρ id with
    | none => rw [hρ] at h5; simp only [] at h5 ⊢; omega
    | some b =>
     rw [hρ] at h5
     simp only [] at h5 ⊢
     rcases h5 with h5 | ⟨ha5,hlen,C,E,fz,hC,hcap⟩
     ·exact .inl (by omega)
     ·by_cases hcl : cap = l
      ·exact .inl (by omega)
      ·have hesz : esz = P.cellsOf e ∨ l = 0 := by
        rcases hc.2.2 with hz | hz
        ·exact .inr (by omega)
        ·exact .inl hz
       refine .inr ⟨?_,?_,C,E,fz,hC,?_⟩
       ·rw [if_neg hcl,ha5]
        rcases hesz with hz | hz
        ·simp [qI,hz]
        ·subst hz; simp [qI]
       ·have e1 : l * esz + (u - l) * esz = u * esz := by rw [← Nat.add_mul]; congr 1; omega
        have e2 : u * esz ≤ len * esz := Nat.mul_le_mul_right _ h3
        omega
       ·have e1 : l * esz + (cap - l) * esz = cap * esz := by rw [← Nat.add_mul]; congr 1; omega
        omega
   ·cases he
  ·rename_i cs esz g hid
   split at he
   ·rename_i hc
    simp only [Option.map_eq_some_iff] at he
    obtain ⟨⟨l,u⟩,hb,rfl⟩ := he
    simp only [AR] at ha ⊢
    obtain ⟨a,cap,rfl,hs⟩ := ha
    simp only [slOK,hid] at hs
    have h4 := hs.2 hc.1.symm
    obtain ⟨h1,h2,h3⟩ := ME (P := P) (w := w) true hb h4.1 k k'
    obtain ⟨j,hj⟩ := sS hc.2.1
    refine ⟨.slice (if cap = l then a else a.map (·.add (l * P.cellsOf e))) (u - l) (cap - l),by simp only [Instr.sliceAt,Instr.slice,Sem.run_bind,aT hu]; simp [aT hu,h1,eA hj],_,_,rfl,?_⟩
    simp only [slOK,hid]
    refine ⟨hs.1,fun hg => ⟨by omega,?_⟩⟩
    have h5 := h4.2
    cases hρ : ρ id with
    | none => rw [hρ] at h5; simp only [] at h5 ⊢; omega
    | some b =>
     rw [hρ] at h5
     simp only [] at h5 ⊢
     rcases h5 with h5 | ⟨ha5,hlen,C,E,fz,hC,hcap⟩
     ·exact .inl (by omega)
     ·by_cases hcl : cap = l
      ·exact .inl (by omega)
      ·have hesz : esz = P.cellsOf e ∨ l = 0 := by
        rcases hc.2.2 with hz | hz
        ·exact .inr (by omega)
        ·exact .inl hz
       refine .inr ⟨?_,?_,C,E,fz,hC,?_⟩
       ·rw [if_neg hcl,ha5]
        rcases hesz with hz | hz
        ·simp [qI,hz]
        ·subst hz; simp [qI]
       ·have e1 : l * esz + (u - l) * esz = u * esz := by rw [← Nat.add_mul]; congr 1; omega
        have e2 : u * esz ≤ len * esz := Nat.mul_le_mul_right _ h3
        omega
       ·have e1 : l * esz + (cap - l) * esz = cap * esz := by rw [← Nat.add_mul]; congr 1; omega
        omega
   ·cases he
  ·cases he
 ·cases he
theorem I4 {op : BinOp} {t : TypeId} {x y : Operand} {a b : Value} (h1 : a ≠ .nilIface) (h2 : a.oneCell' = true) : (eqGuard op t x y a b).run P w = .ok () w := by
 cases op <;> cases a <;> first
  | (exact absurd rfl h1)
  | (simp [Value.oneCell'] at h2; done)
  | rfl
theorem IS {s : Sem Value} {x : A} (he : (sA s).bind jO = some x) : ∃ u,s.run P w = .ok u w ∧ AR h ρ w I x u := by
 cases s with
 | pure v =>
  simp only [sA,Option.bind_some] at he
  exact ⟨v,rfl,PP he h ρ w I⟩
 | _ => simp [sA] at he
theorem vE (s : List UInt8) : (⟨s.toArray⟩ : ByteArray).toList = s := ByteArray.toList_mk s
theorem aSq {op : BinOp} {t : TypeId} {xo yo : Operand} {a b x : A} {u v : Value} (he : aBin op a b = some x) (ha : AR h ρ w I a u) (hb : AR h ρ w I b v) :
  ∃ r,(do eqGuard op t xo yo u v; binOp op t u v : Sem Value).run P w = .ok r w ∧ AR h ρ w I x r := by
 unfold aBin at he
 split at he
 ·-- shl
  simp only [AR,DR] at ha hb
  subst ha; subst hb
  obtain ⟨r,hr,hx⟩ := IS (P := P) (w := w) (h := h) (ρ := ρ) (I := I) he
  exact ⟨r,by simp only [Sem.run_bind,I4 (a := .int _ _) (by simp) rfl]; simpa [binOp] using hr,hx⟩
 ·simp only [AR,DR] at ha hb
  subst ha; subst hb
  obtain ⟨r,hr,hx⟩ := IS (P := P) (w := w) (h := h) (ρ := ρ) (I := I) he
  exact ⟨r,by simp only [Sem.run_bind,I4 (a := .int _ _) (by simp) rfl]; simpa [binOp] using hr,hx⟩
 ·rename_i k m k' n hn1 hn2
  simp only [AR,DR] at ha hb
  subst ha; subst hb
  split at he
  ·cases he
  ·rename_i hk
   have hk : k = k' := by simpa using hk
   subst hk
   have g := fun op => I4 (P := P) (w := w) (op := op) (t := t) (x := xo) (y := yo) (a := .int k m) (b := .int k n) (by simp) rfl
   have pv : ∀ (op : BinOp) (s : Sem Value),(sA s).bind jO = some x → binOp op t (.int k m) (.int k n) = s →
     ∃ r,(do eqGuard op t xo yo (.int k m) (.int k n); binOp op t (.int k m) (.int k n) : Sem Value).run P w = .ok r w ∧ AR h ρ w I x r := by
    intro op s hs hb
    obtain ⟨r,hr,hx⟩ := IS (P := P) (w := w) (h := h) (ρ := ρ) (I := I) hs
    exact ⟨r,by simp only [Sem.run_bind,g,hb]; simpa using hr,hx⟩
   have bv : ∀ (op : BinOp) (c : Bool),some (A.d (.bool c)) = some x → binOp op t (.int k m) (.int k n) = pure (.bool c) →
     ∃ r,(do eqGuard op t xo yo (.int k m) (.int k n); binOp op t (.int k m) (.int k n) : Sem Value).run P w = .ok r w ∧ AR h ρ w I x r := by
    intro op c hs hb
    cases hs
    exact ⟨.bool c,by simp only [Sem.run_bind,g,hb]; rfl,by simp only [AR,DR]⟩
   split at he
   ·exact pv _ _ he (by simp [binOp])
   ·exact pv _ _ he (by simp [binOp])
   ·exact pv _ _ he (by simp [binOp])
   ·split at he
    ·cases he
    ·rename_i hz
     cases he
     exact ⟨.int k (k.wrap (m.tdiv n)),by simp only [Sem.run_bind,g]; simp [binOp,Op.intDiv,hz],by simp only [AR,DR]⟩
   ·split at he
    ·cases he
    ·rename_i hz
     cases he
     exact ⟨.int k (m.tmod n),by simp only [Sem.run_bind,g]; simp [binOp,Op.intDiv,hz],by simp only [AR,DR]⟩
   ·exact pv _ _ he (by simp [binOp])
   ·exact pv _ _ he (by simp [binOp])
   ·exact pv _ _ he (by simp [binOp])
   ·exact pv _ _ he (by simp [binOp])
   ·exact bv _ _ he (by simp [binOp,Op.intCmp])
   ·exact bv _ _ he (by simp [binOp,Op.intCmp])
   ·exact bv _ _ he (by simp [binOp,Op.intCmp])
   ·exact bv _ _ he (by simp [binOp,Op.intCmp])
   ·exact bv _ _ he (by simp [binOp,Op.intCmp])
   ·exact bv _ _ he (by simp [binOp,Op.intCmp])
   ·cases he
 ·rename_i a b
  simp only [AR,DR] at ha hb
  subst ha; subst hb
  have g := fun op => I4 (P := P) (w := w) (op := op) (t := t) (x := xo) (y := yo) (a := .string ⟨a.toArray⟩) (b := .string ⟨b.toArray⟩) (by simp) rfl
  have bv : ∀ (op : BinOp) (c : Bool),some (A.d (.bool c)) = some x → binOp op t (.string ⟨a.toArray⟩) (.string ⟨b.toArray⟩) = pure (.bool c) →
    ∃ r,(do eqGuard op t xo yo (.string ⟨a.toArray⟩) (.string ⟨b.toArray⟩); binOp op t (.string ⟨a.toArray⟩) (.string ⟨b.toArray⟩) : Sem Value).run P w = .ok r w ∧ AR h ρ w I x r := by
   intro op c hs hb
   cases hs
   exact ⟨.bool c,by simp only [Sem.run_bind,g,hb]; rfl,by simp only [AR,DR]⟩
  split at he
  ·split at he
   ·rename_i hle
    cases he
    refine ⟨.string (⟨a.toArray⟩ ++ ⟨b.toArray⟩),?_,?_⟩
    ·have hsz : ¬ ((((⟨a.toArray⟩ : ByteArray).size + (⟨b.toArray⟩ : ByteArray).size : Nat) : Int) > IntKind.i64.max) := by
      have : (⟨a.toArray⟩ : ByteArray).size + (⟨b.toArray⟩ : ByteArray).size = a.length + b.length := by simp [ByteArray.size]
      rw [this]
      unfold b5 at hle
      simp only [IntKind.max,IntKind.signed,IntKind.bits,if_true]
      omega
     have hb : binOp .add t (.string ⟨a.toArray⟩) (.string ⟨b.toArray⟩) = pure (.string (⟨a.toArray⟩ ++ ⟨b.toArray⟩)) := by
      simp only [binOp,Op.stringOp,if_neg hsz]
     simp only [Sem.run_bind,g,hb]
     rfl
    ·simp only [AR,DR]
     congr 1
   ·cases he
  ·exact bv _ _ he (by simp only [binOp,Op.stringOp,vE])
  ·exact bv _ _ he (by simp only [binOp,Op.stringOp,vE])
  ·exact bv _ _ he (by simp only [binOp,Op.stringOp,vE])
  ·exact bv _ _ he (by simp only [binOp,Op.stringOp,vE])
  ·exact bv _ _ he (by simp only [binOp,Op.stringOp,vE])
  ·exact bv _ _ he (by simp only [binOp,Op.stringOp,vE])
  ·cases he
 ·cases he
theorem yZ {t : TypeId} {a b : Value} {c : Bool} {op : BinOp} {x : A} (hq : ∀ w,(Op.equal t a b).run P w = .ok c w) (hb : ∀ op,op = .eql ∨ op = .neq → binOp op t a b = (match op with | .eql => do pure (.bool (← Op.equal t a b)) | _ => do pure (.bool (!(← Op.equal t a b))) : Sem Value))
  (he : eqlA op c = some x) : ∃ r,(binOp op t a b).run P w = .ok r w ∧ AR h ρ w I x r := by
 unfold eqlA at he
 split at he
 ·cases he
  exact ⟨.bool c,by rw [hb _ (.inl rfl)]; simp [hq],by simp only [AR,DR]⟩
 ·cases he
  exact ⟨.bool (!c),by rw [hb _ (.inr rfl)]; simp [hq],by simp only [AR,DR]⟩
 ·cases he
theorem aR6 {op : BinOp} {t : TypeId} {xo yo : Operand} {a b x : A} {u v : Value} (he : aNil P op t a b = some x) (ha : AR h ρ w I a u) (hb : AR h ρ w I b v) :
  ∃ r,(do eqGuard op t xo yo u v; binOp op t u v : Sem Value).run P w = .ok r w ∧ AR h ρ w I x r := by
 have g : ∀ (a b : Value),a ≠ .nilIface → a.oneCell' = true → ∀ x : A,(∃ r,(binOp op t a b).run P w = .ok r w ∧ AR h ρ w I x r) → ∃ r,(do eqGuard op t xo yo a b; binOp op t a b : Sem Value).run P w = .ok r w ∧ AR h ρ w I x r :=
  fun a b h1 h2 x ⟨r,hr,hx⟩ => ⟨r,by simp only [Sem.run_bind,I4 (op := op) (t := t) (x := xo) (y := yo) (b := b) h1 h2]; simpa using hr,hx⟩
 unfold aNil at he
 split at he
 ·rename_i a b hu
  simp only [AR,DR] at ha hb
  subst ha; subst hb
  refine g _ _ (by simp) rfl x (yZ (fun w => ?_) (fun op ho => ?_) he)
  ·show (Op.equalIn (9999 + 1) t _ _).run P w = _
   generalize 9999 = d
   simp only [Op.equalIn,Sem.run_bind,aT hu]
   rfl
  ·rcases ho with rfl | rfl <;> rfl
 ·rename_i e hu
  simp only [AR,DR] at ha hb
  subst ha; subst hb
  refine g _ _ (by simp) rfl x (yZ (fun w => ?_) (fun op ho => ?_) he)
  ·show (Op.equalIn (9999 + 1) t _ _).run P w = _
   generalize 9999 = d
   simp only [Op.equalIn,Sem.run_bind,aT hu]
   rfl
  ·rcases ho with rfl | rfl <;> rfl
 ·rename_i e cs hu
  simp only [AR,DR] at ha hb
  obtain ⟨b,o,rfl,_⟩ := hb
  subst ha
  refine g _ _ (by simp) rfl x (yZ (fun w => ?_) (fun op ho => ?_) he)
  ·show (Op.equalIn (9999 + 1) t _ _).run P w = _
   generalize 9999 = d
   simp only [Op.equalIn,Sem.run_bind,aT hu]
   rfl
  ·rcases ho with rfl | rfl <;> rfl
 ·rename_i e cs hu
  simp only [AR,DR] at ha hb
  obtain ⟨b,o,rfl,_⟩ := ha
  subst hb
  refine g _ _ (by simp) rfl x (yZ (fun w => ?_) (fun op ho => ?_) he)
  ·show (Op.equalIn (9999 + 1) t _ _).run P w = _
   generalize 9999 = d
   simp only [Op.equalIn,Sem.run_bind,aT hu]
   rfl
  ·rcases ho with rfl | rfl <;> rfl
 ·rename_i ms t' y hu
  simp only [AR,DR] at ha hb
  obtain ⟨u',rfl,_⟩ := ha
  subst hb
  refine g _ _ (by simp) rfl x (yZ (fun w => ?_) (fun op ho => ?_) he)
  ·show (Op.equalIn (9999 + 1) t _ _).run P w = _
   generalize 9999 = d
   simp only [Op.equalIn,Sem.run_bind,aT hu]
   rfl
  ·rcases ho with rfl | rfl <;> rfl
 ·cases he
def aKE (P : Program) (eqs : List (TypeId × Nat)) : Prop := ∀ t n,eqs.contains (t,n) = true → ∀ (as bs : List Int),as.length = n → bs.length = n → ∀ w,
 (Op.equal t (.agg (as.map (Value.int .i64)).toArray) (.agg (bs.map (Value.int .i64)).toArray)).run P w = .ok (as == bs) w ∧
 ∀ op x y,(eqGuard op t x y (.agg (as.map (Value.int .i64)).toArray) (.agg (bs.map (Value.int .i64)).toArray)).run P w = .ok () w
theorem aDf : ∀ {xs : List A} {as : List Int} {vs : List Value},W0 xs = some as → ARv h ρ w I xs vs → vs = as.map (Value.int .i64)
 | [],as,vs,he,hv => by
  simp only [W0,Option.some.injEq] at he; subst he
  simp only [ARv] at hv; subst hv; rfl
 | x :: xs,as,vs,he,hv => by
  simp only [ARv] at hv
  obtain ⟨v,rest,rfl,hx,hr⟩ := hv
  unfold W0 at he
  split at he
  ·rename_i h0; cases h0
  ·rename_i n xs' h0
   cases h0
   simp only [Option.map_eq_some_iff] at he
   obtain ⟨as',has,rfl⟩ := he
   simp only [AR,DR] at hx
   rw [hx,aDf has hr]; rfl
  ·cases he
theorem aO7 {eqs : List (TypeId × Nat)} (hq : aKE P eqs) {op : BinOp} {t : TypeId} {xo yo : Operand} {a b x : A} {u v : Value} (he : aHP eqs op t a b = some x) (ha : AR h ρ w I a u) (hb : AR h ρ w I b v) :
  ∃ r,(do eqGuard op t xo yo u v; binOp op t u v : Sem Value).run P w = .ok r w ∧ AR h ρ w I x r := by
 unfold aHP at he
 split at he
 ·rename_i xs ys
  split at he
  ·rename_i as bs h1 h2
   split at he
   ·rename_i hc
    simp only [AR] at ha hb
    obtain ⟨C,rfl,hC⟩ := ha
    obtain ⟨D,rfl,hD⟩ := hb
    have e1 := aDf h1 hC
    have e2 := aDf h2 hD
    have e1' : C = (as.map (Value.int .i64)).toArray := by rw [← e1]
    have e2' : D = (bs.map (Value.int .i64)).toArray := by rw [← e2]
    subst e1'; subst e2'
    have q := fun w => hq t as.length hc.1 as bs rfl hc.2.symm w
    obtain ⟨r,hr,hx⟩ := yZ (P := P) (w := w) (h := h) (ρ := ρ) (I := I) (fun w => (q w).1) (fun op ho => by rcases ho with rfl | rfl <;> rfl) he
    exact ⟨r,by simp only [Sem.run_bind,(q w).2]; simpa using hr,hx⟩
   ·cases he
  ·cases he
 ·cases he
theorem aSK {op : UnOp} {a x : A} {v : Value} (he : aUn op a = some x) (ha : AR h ρ w I a v) : ∃ r,(Op.unary op v).run P w = .ok r w ∧ AR h ρ w I x r := by
 unfold aUn at he
 split at he
 ·simp only [AR,DR] at ha; subst ha
  exact IS he
 ·simp only [AR,DR] at ha; subst ha
  exact IS he
 ·simp only [AR,DR] at ha; subst ha
  cases he
  exact ⟨_,rfl,by simp only [AR,DR]⟩
 ·cases he
theorem aSl {t ty : TypeId} {a x : A} {v : Value} {ts : Array TypeId} (ht : ts[0]? = some t) (he : aLen P t a = some x) (ha : AR h ρ w I a v) : ∃ r,(Builtin.len_ ts ty #[v]).run P w = .ok r w ∧ AR h ρ w I x r := by
 unfold aLen at he
 split at he
 ·rename_i s hu
  simp only [AR,DR] at ha; subst ha; cases he
  have e : (⟨s.toArray⟩ : ByteArray).size = s.length := by simp [ByteArray.size]
  exact ⟨.int .i64 s.length,by simp [Builtin.len_,ht,aT hu,goInt,e],by simp only [AR,DR]⟩
 ·rename_i n e hu
  cases he
  exact ⟨.int .i64 n,by simp [Builtin.len_,ht,aT hu,goInt],by simp only [AR,DR]⟩
 ·rename_i e hu
  simp only [AR,DR] at ha; obtain ⟨a,rfl⟩ := ha; cases he
  exact ⟨.int .i64 0,by simp [Builtin.len_,ht,aT hu,goInt],by simp only [AR,DR]⟩
 ·rename_i e n cs hu
  simp only [AR,DR] at ha; obtain ⟨a,cap,rfl,_⟩ := ha; cases he
  exact ⟨.int .i64 n,by simp [Builtin.len_,ht,aT hu,goInt],by simp only [AR,DR]⟩
 ·rename_i e id g o n hu
  simp only [AR] at ha; obtain ⟨a,cap,rfl,_⟩ := ha; cases he
  exact ⟨.int .i64 n,by simp [Builtin.len_,ht,aT hu,goInt],by simp only [AR,DR]⟩
 ·cases he
end
end Ev
end Go.Proofs.Ytppdfjdfjfoddaa
namespace Go.Proofs.Ytppdfjdfjfoddaa
namespace Ev
variable {G : Gnd}
section
variable {P : Program} {h : H} {ρ : Rho} {w : World} {I : Nat → Prop}
theorem WV : ∀ (cells : List A) {h : H} {ρ : Rho} {vs : List Value},Rel G h ρ w I → ARv h ρ w I cells vs →
  ∃ ρ',Step G h ρ w I (aU h cells).2 ρ' w I ∧ ARv (aU h cells).2 ρ' w I (aU h cells).1 vs ∧ ∀ id,id < h.length → (aU h cells).2[id]? = h[id]? ∧ ρ' id = ρ id
 | [],h,ρ,vs,r,ha => ⟨ρ,by simp only [aU]; exact .refl r,by simpa only [aU] using ha,fun id _ => by simp only [aU]; exact ⟨trivial,trivial⟩⟩
 | c :: cs,h,ρ,vs,r,ha => by
  simp only [ARv] at ha
  obtain ⟨v,rest,rfl,hc,hr⟩ := ha
  by_cases hn : c = .d .nils
  ·subst hn
   have s1 := j4 r (Grew.refl w) (.arr [] 0 0) none (by simp) (fun _ => by simp [OR,bP])
   obtain ⟨ρ',s2,h2,h3⟩ := WV cs s1.rel (jM s1.ext cs rest hr)
   simp only [aU]
   refine ⟨ρ',s1.trans s2,?_,fun id hid => ?_⟩
   ·simp only [ARv]
    refine ⟨v,rest,rfl,?_,h2⟩
    refine m5 s2.ext _ v ?_
    simp only [AR,DR] at hc ⊢
    obtain ⟨a,rfl⟩ := hc
    refine ⟨a,0,rfl,?_⟩
    have e : (h ++ [O.arr [] 0 0])[h.length]? = some (.arr [] 0 0) := by simp
    simp only [slOK,e,bP]
    simp
   ·have := h3 id (by simp; omega)
    rw [this.1,this.2,List.getElem?_append_left hid,eY ρ none (by omega)]
    exact ⟨rfl,rfl⟩
  ·have e1 : aU h (c :: cs) = (c :: (aU h cs).1,(aU h cs).2) := by
    rw [aU.eq_def]
    split
    ·rename_i h0; cases h0
    ·rename_i h0; cases h0; exact absurd rfl hn
    ·rename_i h0; cases h0; rfl
   obtain ⟨ρ',s2,h2,h3⟩ := WV cs r hr
   rw [e1]
   exact ⟨ρ',s2,by simp only [ARv]; exact ⟨v,rest,rfl,m5 s2.ext c v hc,h2⟩,h3⟩
theorem AH {α : Type} (cs : List α) (off : Nat) (new : List α) (hl : off + new.length ≤ cs.length) (k : Nat) : (bI cs off new)[k]? = if off ≤ k ∧ k < off + new.length then new[k - off]? else cs[k]? := by
 unfold bI
 by_cases h1 : k < off
 ·rw [if_neg (by omega),List.append_assoc,List.getElem?_append_left (by simp; omega),List.getElem?_take,if_pos h1]
 ·by_cases h2 : k < off + new.length
  ·rw [if_pos (by omega),List.append_assoc,List.getElem?_append_right (by simp; omega)]
   have e : (cs.take off).length = off := by simp; omega
   rw [e,List.getElem?_append_left (by omega)]
  ·rw [if_neg (by omega),List.getElem?_append_right (by simp; omega)]
   have e : (cs.take off ++ new).length = off + new.length := by simp; omega
   rw [e,List.getElem?_drop]
   congr 1; omega
theorem F5 {α : Type} (cs : List α) (off : Nat) (new : List α) (hl : off + new.length ≤ cs.length) : (bI cs off new).length = cs.length := by
 unfold bI; simp; omega
theorem NO {t : TypeId} {b o : Nat} {v : Value} {C : Array Value} {E : TypeId} {fz : Nat × Nat} {i : TypeInfo} (hi : P.info? t = some i) (hs : v.cells.toList.length = P.cellsOf t) (hb : w.heap[b]? = some (.cells C E fz)) (hfz : yG C fz)
  (hl : o + v.cells.toList.length ≤ C.size) (hone : ∀ u ∈ v.cells.toList,u.oneCell' = true) :
  ∃ C' : Array Value,(Instr.storeAt t (.pointer (some ⟨b,o,none⟩)) v).run P w = .ok () (eW w b (.cells C' E fz)) ∧ C'.size = C.size ∧
   ∀ k : Nat,C'[k]? = if o ≤ k ∧ k < o + v.cells.toList.length then v.cells.toList[k - o]? else C[k]? := by
 obtain ⟨C',h1,h2,h3⟩ := HC (P := P) (o := o) v.cells.toList 0 C w hb hfz (by omega) hone
 refine ⟨C',?_,h2,fun k => by simpa using h3 k⟩
 have hs' : v.cells.size = P.cellsOf t := by simpa using hs
 simp [Instr.storeAt,Instr.sureAddr,storeVar,eA hi,hs',h1]
theorem uN {b : Nat} {o : Obj} : (eW w b o).os = w.os ∧ (eW w b o).tape = w.tape ∧ (eW w b o).output = w.output ∧ (eW w b o).heap.size = w.heap.size := by
 simp [eW]
theorem BE {b : Nat} {C' : Array Value} {E : TypeId} {fz : Nat × Nat} (hb : b < w.heap.size) (k : Nat) : eJ (eW w b (.cells C' E fz)) b k = C'[k]? := by
 simp [eJ,kT hb]
theorem gZ {b : Nat} {C : Array Value} {E : TypeId} {fz : Nat × Nat} (hb : w.heap[b]? = some (.cells C E fz)) (k : Nat) : eJ w b k = C[k]? := by
 simp [eJ,hb]
theorem aOW {t : TypeId} {a x : A} {u v : Value} {h' : H} (he : nM P h t a x = some h') (r : Rel G h ρ w I) (ha : AR h ρ w I a u) (hx : AR h ρ w I x v) :
  ∃ ρ' w' I',(Instr.storeAt t u v).run P w = .ok () w' ∧ Step G h ρ w I h' ρ' w' I' := by
 unfold nM at he
 split at he
 ·rename_i hc
  obtain ⟨hlen,hinfo,hok⟩ := hc
  obtain ⟨i,hi⟩ := Option.isSome_iff_exists.1 hinfo
  obtain ⟨hcv,hone⟩ := aAd hx hok
  have hvl : v.cells.toList.length = P.cellsOf t := by rw [← hlen]; exact (j9 hcv).symm
  split at he
  ·rename_i id gen off
   simp only [AR] at ha
   obtain ⟨b,rfl,hp⟩ := ha
   cases hid : h[id]? with
   | none => rw [hid] at he; cases he
   | some ob =>
    rw [hid] at he
    have hlt : id < h.length := (List.getElem?_eq_some_iff.1 hid).1
    cases ob with
    | ice cs esz g => cases he
    | mp es => cases he
    | void => cases he
    | box cs =>
     simp only [] at he
     split at he
     ·rename_i hle
      cases he
      simp only [ptOK,hid] at hp
      obtain ⟨ρ1,s1,hcv1,hkeep⟩ := WV (aQ x) r hcv
      obtain ⟨hid1,hρ1⟩ := hkeep id hlt
      rw [hid] at hid1
      rw [hp.2] at hρ1
      have hO := s1.rel.obj id _ hid1
      simp only [OR] at hO
      obtain ⟨b',hb',hIb,C,E,fz,hC,hfz,hcs⟩ := hO
      rw [hρ1] at hb'; cases hb'
      have hblt := (Array.getElem?_eq_some_iff.1 hC).1
      have hcsz : cs.length ≤ C.size := by
       rcases Nat.eq_zero_or_pos cs.length with h0 | h0
       ·omega
       ·obtain ⟨v0,hv0,_⟩ := hcs (cs.length - 1) cs[cs.length - 1] (by simp)
        rw [gZ hC] at hv0
        have := (Array.getElem?_eq_some_iff.1 hv0).1
        omega
      obtain ⟨C',h1,h2,h3⟩ := NO (P := P) (o := off) hi hvl hC hfz (by omega) hone
      have hl1 : (aU h (aQ x)).1.length = P.cellsOf t := by rw [j9 hcv1,hvl]
      obtain ⟨f1,f2,f3,f4⟩ := uN (w := w) (b := b) (o := .cells C' E fz)
      have s2 := jZ (o' := .box (bI cs off (aU h (aQ x)).1)) (w' := eW w b (.cells C' E fz)) (I' := I) s1.rel hid1 trivial (ρ1 id) f1 f2 f3 (by rw [f4]; exact Nat.le_refl _)
       (fun k _ hne => uJ (fun e => hne (by rw [hρ1,e]))) (fun _ hb => hb) (fun _ hb => .inl hb) (fun _ hb => .inl hb)
       (fun _ gen off len a cap hs => by simp only [slOK,hid1] at hs)
       (fun _ gen b2 hs => by
        simp only [ptOK,hid1] at hs
        have e : ((aU h (aQ x)).2.set id (.box (bI cs off (aU h (aQ x)).1)))[id]? = some (.box (bI cs off (aU h (aQ x)).1)) := by
         have := (List.getElem?_eq_some_iff.1 hid1).1
         simp [this]
        simp only [ptOK,e,d9]; exact hs)
       (fun ext => by
        simp only [OR,d9]
        refine ⟨b,hρ1,hIb,C',E,fz,kT hblt,fun j hj => hfz j (by omega),fun k c hk => ?_⟩
        rw [d9] at ext
        rw [AH _ _ _ (by omega)] at hk
        rw [BE hblt,h3 k]
        by_cases hin : off ≤ k ∧ k < off + P.cellsOf t
        ·rw [if_pos (by omega)] at hk
         rw [if_pos (by omega)]
         obtain ⟨u,hu,hau⟩ := ((iB _ _).1 hcv1).2 (k - off) c hk
         exact ⟨u,hu,m5 ext c u hau,hone u (List.mem_of_getElem? hu)⟩
        ·rw [if_neg (by omega)] at hk
         rw [if_neg (by omega)]
         obtain ⟨u,hu,hau,ho⟩ := hcs k c hk
         rw [gZ hC] at hu
         exact ⟨u,hu,m5 ext c u hau,ho⟩)
      rw [d9] at s2
      exact ⟨ρ1,_,I,h1,s1.trans s2⟩
     ·cases he
    | vec cs esz g =>
     simp only [] at he
     split at he
     ·rename_i hle
      cases he
      obtain ⟨hg,hle⟩ := hle
      subst hg
      simp only [ptOK,hid] at hp
      have hρ := hp.2 trivial
      have hO := r.obj id _ hid
      simp only [OR,hρ] at hO
      obtain ⟨hez,hIb,C,E,fz,hC,hfz,hcs⟩ := hO
      have hblt := (Array.getElem?_eq_some_iff.1 hC).1
      have hcsz : cs.length ≤ C.size := by
       rcases Nat.eq_zero_or_pos cs.length with h0 | h0
       ·omega
       ·obtain ⟨v0,hv0,_⟩ := hcs (cs.length - 1) cs[cs.length - 1] (by simp)
        rw [gZ hC] at hv0
        have := (Array.getElem?_eq_some_iff.1 hv0).1
        omega
      obtain ⟨C',h2,h3,h4⟩ := NO (P := P) (o := off) hi hvl hC hfz.1 (by omega) hone
      obtain ⟨f1,f2,f3,f4⟩ := uN (w := w) (b := b) (o := .cells C' E fz)
      have hset : (h.set id (.vec (bI cs off (aQ x)) esz g))[id]? = some (.vec (bI cs off (aQ x)) esz g) := by simp [hlt]
      have hsl := F5 cs off (aQ x) (by omega)
      have s2 := jZ (o' := .vec (bI cs off (aQ x)) esz g) (w' := eW w b (.cells C' E fz)) (I' := I) r hid trivial (ρ id) f1 f2 f3 (by rw [f4]; exact Nat.le_refl _)
       (fun k _ hne => uJ (fun e => hne (by rw [hρ,e]))) (fun _ hb => hb) (fun _ hb => .inl hb) (fun _ hb => .inl hb)
       (fun _ gen off len a cap hs => by
        simp only [slOK,hid] at hs
        simp only [slOK,hset,d9]
        refine ⟨hs.1,fun hg => ⟨(hs.2 hg).1,?_⟩⟩
        have h5 := (hs.2 hg).2
        rw [hρ] at h5 ⊢
        rcases h5 with h5 | ⟨h5,h6,C2,E2,fz2,h7,h8⟩
        ·exact .inl h5
        ·refine .inr ⟨h5,by rw [hsl]; exact h6,C',E,fz,kT hblt,?_⟩
         rw [hC] at h7; cases h7
         rw [h3]; exact h8)
       (fun _ gen b2 hs => by
        simp only [ptOK,hid] at hs
        simp only [ptOK,hset,d9]; exact hs)
       (fun ext => by
        simp only [OR,hρ,bP]
        rw [hρ] at ext
        refine ⟨hez,hIb,C',E,fz,kT hblt,hfz.keep (by omega),fun k c hk => ?_⟩
        rw [AH _ _ _ (by omega)] at hk
        rw [BE hblt,h4 k]
        by_cases hin : off ≤ k ∧ k < off + P.cellsOf t
        ·rw [if_pos (by omega)] at hk
         rw [if_pos (by omega)]
         obtain ⟨u,hu,hau⟩ := ((iB _ _).1 hcv).2 (k - off) c hk
         exact ⟨u,hu,m5 ext c u hau,hone u (List.mem_of_getElem? hu)⟩
        ·rw [if_neg (by omega)] at hk
         rw [if_neg (by omega)]
         obtain ⟨u,hu,hau,ho⟩ := hcs k c hk
         rw [gZ hC] at hu
         exact ⟨u,hu,m5 ext c u hau,ho⟩)
      rw [d9] at s2
      exact ⟨ρ,_,I,h2,s2⟩
     ·cases he
    | arr cs0 esz0 g0 =>
     simp only [] at he
     split at he
     ·rename_i ds h1 hfr
      split at he
      ·rename_i cs esz g hid1
       split at he
       ·rename_i hle
        cases he
        obtain ⟨hg,hle⟩ := hle
        subst hg
        obtain ⟨I1,s1,hds⟩ := aDh hfr r hcv
        have hp1 := s1.ext.pt _ _ _ hp
        simp only [ptOK,hid1] at hp1
        have hρ := hp1.2 trivial
        have hO := s1.rel.obj id _ hid1
        simp only [OR,hρ] at hO
        obtain ⟨hez,hIb,C,E,fz,hC,hfz,hcs⟩ := hO
        have hblt := (Array.getElem?_eq_some_iff.1 hC).1
        have hcsz : cs.length ≤ C.size := by
         rcases Nat.eq_zero_or_pos cs.length with h0 | h0
         ·omega
         ·obtain ⟨v0,hv0,_⟩ := (lG _ _ _).1 hcs (cs.length - 1) cs[cs.length - 1] (by simp)
          rw [gZ hC] at hv0
          have := (Array.getElem?_eq_some_iff.1 hv0).1
          omega
        obtain ⟨C',h2,h3,h4⟩ := NO (P := P) (o := off) hi hvl hC hfz.1 (by omega) hone
        have hl1 : ds.length = P.cellsOf t := by rw [((nB _ _).1 hds).1,hvl]
        obtain ⟨f1,f2,f3,f4⟩ := uN (w := w) (b := b) (o := .cells C' E fz)
        have hlt1 := (List.getElem?_eq_some_iff.1 hid1).1
        have hset : (h1.set id (.arr (bI cs off ds) esz g))[id]? = some (.arr (bI cs off ds) esz g) := by simp [hlt1]
        have hsl := F5 cs off ds (by omega)
        have s2 := jZ (o' := .arr (bI cs off ds) esz g) (w' := eW w b (.cells C' E fz)) (I' := I1) s1.rel hid1 trivial (ρ id) f1 f2 f3 (by rw [f4]; exact Nat.le_refl _)
         (fun k _ hne => uJ (fun e => hne (by rw [hρ,e]))) (fun _ hb => hb) (fun _ hb => .inl hb) (fun _ hb => .inl hb)
         (fun _ gen off len a cap hs => by
          simp only [slOK,hid1] at hs
          simp only [slOK,hset,d9]
          refine ⟨hs.1,fun hg => ⟨(hs.2 hg).1,?_⟩⟩
          have h5 := (hs.2 hg).2
          rw [hρ] at h5 ⊢
          rcases h5 with h5 | ⟨h5,h6,C2,E2,fz2,h7,h8⟩
          ·exact .inl h5
          ·refine .inr ⟨h5,by rw [hsl]; exact h6,C',E,fz,kT hblt,?_⟩
           rw [hC] at h7; cases h7
           rw [h3]; exact h8)
         (fun _ gen b2 hs => by
          simp only [ptOK,hid1] at hs
          simp only [ptOK,hset,d9]; exact hs)
         (fun ext => by
          simp only [OR,hρ,bP]
          refine ⟨hez,hIb,C',E,fz,kT hblt,hfz.keep (by omega),?_⟩
          rw [lG]
          intro k c hk
          rw [AH _ _ _ (by omega)] at hk
          rw [BE hblt,Nat.zero_add,h4 k]
          by_cases hin : off ≤ k ∧ k < off + P.cellsOf t
          ·rw [if_pos (by omega)] at hk
           rw [if_pos (by omega)]
           obtain ⟨u,hu,hau⟩ := ((nB _ _).1 hds).2 (k - off) c hk
           exact ⟨u,hu,rE ext.imm c u hau,hone u (List.mem_of_getElem? hu)⟩
          ·rw [if_neg (by omega)] at hk
           rw [if_neg (by omega)]
           obtain ⟨u,hu,hau,ho⟩ := (lG _ _ _).1 hcs k c hk
           rw [gZ hC,Nat.zero_add] at hu
           exact ⟨u,hu,rE ext.imm c u hau,ho⟩)
        rw [d9] at s2
        exact ⟨ρ,_,I1,h2,s1.trans s2⟩
       ·cases he
      ·cases he
     ·cases he
  ·cases he
 ·cases he
theorem aFY (C : Array Value) : yG C (0,0) := fun j _ h => by omega
theorem aH8 {C : Array Value} {E : TypeId} {fz : Nat × Nat} (k : Nat) : eJ { w with heap := w.heap.push (.cells C E fz) } w.heap.size k = C[k]? := by
 simp [eJ]
theorem aNE {t : TypeId} {a x : A} {v : Value} {h' : H} (he : aNew h x = some (a,h')) (r : Rel G h ρ w I) (hx : AR h ρ w I x v) :
  ∃ ρ' w',(newVar t v).run P w = .ok ⟨w.heap.size,0,none⟩ w' ∧ Step G h ρ w I h' ρ' w' I ∧ AR h' ρ' w' I a (.pointer (some ⟨w.heap.size,0,none⟩)) := by
 unfold aNew at he
 split at he
 ·rename_i hok
  cases he
  obtain ⟨hcv,hone⟩ := aAd hx hok
  obtain ⟨ρ1,s1,hcv1,hkeep⟩ := WV (aQ x) r hcv
  have g := Grew.push w (.cells v.cells t (0,0))
  have s2 := j4 s1.rel g (.box (aU h (aQ x)).1) (some w.heap.size) (fun b hb => by cases hb; exact Nat.le_refl _) (fun ext => by
   simp only [OR,bP]
   refine ⟨_,rfl,fun hI => ?_,v.cells,t,(0,0),by simp,aFY _,fun k c hk => ?_⟩
   ·have := r.imm _ hI; omega
   ·obtain ⟨u,hu,hau⟩ := ((iB _ _).1 hcv1).2 k c hk
    exact ⟨u,by rw [aH8]; simpa using hu,m5 ext c u hau,hone u (List.mem_of_getElem? hu)⟩)
  refine ⟨_,_,rfl,s1.trans s2,?_⟩
  simp only [AR]
  refine ⟨_,rfl,?_⟩
  have e : ((aU h (aQ x)).2 ++ [O.box (aU h (aQ x)).1])[(aU h (aQ x)).2.length]? = some (.box (aU h (aQ x)).1) := by simp
  simp only [ptOK,e,bP]
  exact ⟨trivial,trivial⟩
 ·cases he
end
end Ev
end Go.Proofs.Ytppdfjdfjfoddaa
namespace Go.Proofs.Ytppdfjdfjfoddaa
namespace Ev
variable {G : Gnd}
section
variable {P : Program} {h : H} {ρ : Rho} {w : World} {I : Nat → Prop}
theorem LC {a : A} {v : Value} (ha : AR h ρ w I a v) (hn : nF a = true) : ARv h ρ w I (aQ a) v.cells.toList := by
 have single : (∀ C,v ≠ .agg C) → aQ a = [a] → ARv h ρ w I (aQ a) v.cells.toList := by
  intro hk hc
  have e : v.cells = #[v] := by cases v <;> first | rfl | exact absurd rfl (hk _)
  rw [hc,e]
  simp only [ARv]
  exact ⟨v,[],rfl,ha,rfl⟩
 cases a with
 | agg cs =>
  simp only [AR] at ha
  obtain ⟨C,rfl,hc⟩ := ha
  exact hc
 | d x =>
  refine single (fun C hC => ?_) rfl
  subst hC
  simp only [AR] at ha
  cases x <;> simp only [DR] at ha
  all_goals first
   | (cases ha; done)
   | (obtain ⟨_,_,ha,_⟩ := ha; cases ha; done)
   | (obtain ⟨_,ha,_⟩ := ha; cases ha; done)
   | (obtain ⟨_,ha⟩ := ha; cases ha; done)
 | sl id gen off len => exact single (fun C hC => by subst hC; simp only [AR] at ha; obtain ⟨_,_,ha,_⟩ := ha; cases ha) rfl
 | ptr id gen off => exact single (fun C hC => by subst hC; simp only [AR] at ha; obtain ⟨_,ha,_⟩ := ha; cases ha) rfl
 | mp id => exact single (fun C hC => by subst hC; simp only [AR] at ha; obtain ⟨_,ha,_⟩ := ha; cases ha) rfl
 | clo f caps => exact single (fun C hC => by subst hC; simp only [AR] at ha; obtain ⟨_,ha,_⟩ := ha; cases ha) rfl
 | tup cs => exact single (fun C hC => by subst hC; simp only [AR] at ha; obtain ⟨_,ha,_⟩ := ha; cases ha) rfl
 | junk => simp [nF] at hn
theorem aEH (off : Nat) : ∀ (l : List Value) (k : Nat) (C : Array Value),off + k + l.length ≤ C.size →
  ((l.zipIdx k).foldl (fun (cs : Array Value) (p : Value × Nat) => cs.setIfInBounds (off + p.2) p.1) C).toList = bI C.toList (off + k) l
 | [],k,C,_ => by simp [bI]
 | v :: l,k,C,hl => by
  simp only [List.length_cons] at hl
  simp only [List.zipIdx_cons,List.foldl_cons]
  rw [aEH off l (k + 1) _ (by simp; omega)]
  apply List.ext_getElem?
  intro j
  rw [AH _ _ _ (by simp; omega),AH _ _ _ (by simp; omega)]
  simp only [Array.toList_setIfInBounds,List.length_cons]
  by_cases e : j = off + k
  ·subst e
   rw [if_neg (by omega),if_pos (by omega),List.getElem?_set]
   simp
   omega
  ·by_cases e2 : off + (k + 1) ≤ j ∧ j < off + (k + 1) + l.length
   ·rw [if_pos e2,if_pos (by omega),show j - (off + k) = (j - (off + (k + 1))) + 1 from by omega]
    simp
   ·rw [if_neg e2,if_neg (by omega),List.getElem?_set_ne (by omega)]
def yS (h : H) (ρ : Rho) (w : World) (I : Nat → Prop) (aI : Nat → Option (Nat × Nat)) : List (Option (Nat × Nat) × A) → List (Nat × Value) → Prop
 | [],qs => qs = []
 | (p,a) :: ps,qs => ∃ i v rest,qs = (i,v) :: rest ∧ aI i = p ∧ AR h ρ w I a v ∧ yS h ρ w I aI ps rest
theorem OZ {aI : Nat → Option (Nat × Nat)} : ∀ (ps : List (Option (Nat × Nat) × A)) (qs : List (Nat × Value)) (cells cells' : List A) (C : Array Value),eP cells ps = some cells' → yS h ρ w I aI ps qs → ARv h ρ w I cells C.toList →
  ∃ C',Instr.fill aI C qs = some C' ∧ ARv h ρ w I cells' C'.toList
 | [],qs,cells,cells',C,he,hp,hc => by
  simp only [eP,Option.some.injEq] at he
  subst he
  simp only [yS] at hp
  subst hp
  exact ⟨C,by simp [Instr.fill],hc⟩
 | (none,a) :: ps,qs,cells,cells',C,he,hp,hc => by simp [eP] at he
 | (some (off,size),a) :: ps,qs,cells,cells',C,he,hp,hc => by
  simp only [yS] at hp
  obtain ⟨i,v,rest,rfl,hpl,ha,hr⟩ := hp
  simp only [eP] at he
  split at he
  ·rename_i hcond
   obtain ⟨hs,hle,hj⟩ := hcond
   have hcv := LC ha hj
   have hvl : v.cells.toList.length = size := by rw [← j9 hcv,hs]
   have hCl : C.toList.length = cells.length := (j9 hc).symm
   have hvs : v.cells.size = size := by simpa using hvl
   have hCs : C.size = cells.length := by simpa using hCl
   have hf := aEH off v.cells.toList 0 C (by omega)
   rw [Nat.add_zero] at hf
   obtain ⟨C',h1,h2⟩ := OZ ps rest _ cells' ((v.cells.toList.zipIdx 0).foldl (fun (cs : Array Value) (p : Value × Nat) => cs.setIfInBounds (off + p.2) p.1) C) he hr (by
    rw [hf]
    unfold bI
    rw [hvl,← hs]
    exact vC (vC (aG5 off hc) hcv) (aGh (off + (aQ a).length) hc))
   refine ⟨C',?_,h2⟩
   simp only [Instr.fill,hpl]
   have hcond : (v.cells.size ≠ size || decide (off + v.cells.size > C.size)) = false := by
    simp [hvs,hCs]; omega
   simp only [hcond,Bool.false_eq_true,if_false]
   rw [← h1]
   congr 1
   rw [← Array.foldl_toList,Array.toList_zipIdx]
  ·cases he
theorem aAh : ∀ (ps : List (Option (Nat × Nat) × A)) (cells cells' : List A),eP cells ps = some cells' → cells'.length = cells.length
 | [],cells,cells',he => by simp only [eP,Option.some.injEq] at he; rw [he]
 | (none,_) :: _,_,_,he => by simp [eP] at he
 | (some (off,size),v) :: ps,cells,cells',he => by
  simp only [eP] at he
  split at he
  ·rename_i hc
   rw [aAh ps _ _ he,F5 _ _ _ (by omega)]
  ·cases he
theorem run_places' (w : World) : ∀ (fs : List Field),(fs.all fun f => (P.info? f.type).isSome) = true → (fs.mapM fun f => Prod.mk f.offset <$> sizeOf f.type).run P w = .ok (fs.map fun f => (f.offset,P.cellsOf f.type)) w
 | [],_ => by simp
 | f :: fs,ha => by
  simp only [List.all_cons,Bool.and_eq_true] at ha
  obtain ⟨i,hi⟩ := Option.isSome_iff_exists.1 ha.1
  have := run_places' w fs ha.2
  simp [List.mapM_cons,eA hi,this]
theorem N2 {t : TypeId} {z : A} (he : bR P t = some z) : ∃ i v,P.info? t = some i ∧ i.zero = some v ∧ (∀ w,(zeroValue t).run P w = .ok v w) ∧ ∀ h ρ w I,AR h ρ w I z v := by
 unfold bR at he
 split at he
 ·rename_i i hi
  simp only [Option.bind_eq_some_iff] at he
  obtain ⟨v,hv,hz⟩ := he
  exact ⟨i,v,hi,hv,fun w => by simp [zeroValue,x8 hi,hv],fun h ρ w I => aD4 hz h ρ w I⟩
 ·cases he
theorem aDw {v : Value} {z : A} (he : IT v = some z) : nF z = true := by
 unfold IT at he
 split at he
 ·simp only [Option.map_eq_some_iff] at he; obtain ⟨_,_,rfl⟩ := he; rfl
 ·unfold jO at he
  split at he <;> first | (cases he; rfl) | cases he
theorem IN {t : TypeId} {z : A} (he : bR P t = some z) : nF z = true := by
 unfold bR at he
 split at he
 ·simp only [Option.bind_eq_some_iff] at he
  obtain ⟨v,_,hz⟩ := he
  exact aDw hz
 ·cases he
theorem FG {aI : Nat → Option (Nat × Nat)} : ∀ (is : List Nat) (as : List A) (vs : List Value),is.length = as.length → ARv h ρ w I as vs → yS h ρ w I aI ((is.zip as).map fun (i,v) => (aI i,v)) (is.zip vs)
 | [],as,vs,_,_ => by simp [yS]
 | i :: is,[],vs,hl,_ => by simp at hl
 | i :: is,a :: as,vs,hl,ha => by
  simp only [ARv] at ha
  obtain ⟨v,rest,rfl,h1,h2⟩ := ha
  simp only [List.zip_cons_cons,List.map_cons,yS]
  exact ⟨i,v,_,rfl,rfl,h1,FG is as rest (by simpa using hl) h2⟩
theorem MY (parts : List (Nat × Operand)) (ev : Operand → Value) : (parts.map (·.1)).zip ((parts.map (·.2)).map ev) = parts.map fun x => (x.1,ev x.2) := by
 rw [List.map_map,List.zip_map']
 rfl
theorem aOj {t : TypeId} {parts : Array (Nat × Operand)} {ev : Operand → Value} {as : List A} {x : A} (he : iL P t ((parts.toList.map (·.1)).zip as) = some x) (ha : ARv h ρ w I as ((parts.toList.map (·.2)).map ev)) :
  ∃ u,(Instr.build t (parts.map fun (i,x) => (i,ev x))).run P w = .ok u w ∧ AR h ρ w I x u := by
 have hl : (parts.toList.map (·.1)).length = as.length := by rw [j9 ha]; simp
 unfold iL at he
 split at he
 ·rename_i z fields hz hu
  split at he
  ·rename_i hall
   simp only [Option.map_eq_some_iff] at he
   obtain ⟨cells,hf,rfl⟩ := he
   obtain ⟨i,zv,hi,hzv,hrun,hzr⟩ := N2 hz
   have hzc := LC (hzr h ρ w I) (IN hz)
   have hp := FG (h := h) (ρ := ρ) (w := w) (I := I) (aI := fun i => (fields.toList[i]?).map fun f => (f.offset,P.cellsOf f.type)) _ as _ hl ha
   obtain ⟨C',h1,h2⟩ := OZ _ _ _ _ _ hf hp hzc
   rw [MY] at h1
   refine ⟨.agg C',?_,by simp only [AR]; exact ⟨C',rfl,h2⟩⟩
   have hpl := run_places' (P := P) w fields.toList hall
   have e : (fun (i : Nat) => (fields.toList[i]?).map fun (f : Field) => (f.offset,P.cellsOf f.type)) = fun (i : Nat) => (fields[i]?).map fun (f : Field) => (f.offset,P.cellsOf f.type) := by
    funext i; simp
   rw [e] at h1
   simp [Instr.build,aT hu,hrun,Array.mapM_eq_mapM_toList,hpl,h1]
  ·cases he
 ·rename_i z n e hz hu
  split at he
  ·rename_i hinfo
   obtain ⟨j,hj⟩ := Option.isSome_iff_exists.1 hinfo
   simp only [Option.map_eq_some_iff] at he
   obtain ⟨cells,hf,rfl⟩ := he
   obtain ⟨i,zv,hi,hzv,hrun,hzr⟩ := N2 hz
   have hzc := LC (hzr h ρ w I) (IN hz)
   have hp := FG (h := h) (ρ := ρ) (w := w) (I := I) (aI := fun i => some (i * P.cellsOf e,P.cellsOf e)) _ as _ hl ha
   obtain ⟨C',h1,h2⟩ := OZ _ _ _ _ _ hf hp hzc
   rw [MY] at h1
   refine ⟨.agg C',?_,by simp only [AR]; exact ⟨C',rfl,h2⟩⟩
   simp [Instr.build,aT hu,hrun,eA hj,h1]
  ·cases he
 ·cases he
theorem vG (zs : List Value) : ∀ n,(List.range (n * zs.length)).map (fun i => zs.toArray[i % zs.toArray.size]!) = (List.replicate n zs).flatten
 | 0 => by simp
 | n + 1 => by
  rw [Nat.add_mul,Nat.one_mul,List.range_add,List.map_append,vG zs n,List.replicate_succ',List.flatten_append]
  congr 1
  simp only [List.flatten_cons,List.flatten_nil,List.append_nil,List.map_map]
  apply List.ext_getElem?
  intro k
  rcases Nat.lt_or_ge k zs.length with hk | hk
  ·have : (n * zs.length + k) % zs.length = k := by rw [Nat.mul_comm,Nat.mul_add_mod]; exact Nat.mod_eq_of_lt hk
   simp [hk,this]
  ·simp [hk]
theorem aAs {zs : List A} {vs : List Value} (hz : ARv h ρ w I zs vs) : ∀ n,ARv h ρ w I (List.replicate n zs).flatten (List.replicate n vs).flatten
 | 0 => by simp [ARv]
 | n + 1 => by
  simp only [List.replicate_succ,List.flatten_cons]
  exact vC hz (aAs hz n)
theorem H5 {e : TypeId} (he : bM P e = true) : ∃ i z zv,P.info? e = some i ∧ bR P e = some z ∧ i.zero = some zv ∧ (∀ w,(zeroValue e).run P w = .ok zv w) ∧ (∀ h ρ w I,ARv h ρ w I (aQ z) zv.cells.toList) ∧
  zv.cells.size = P.cellsOf e ∧ (aQ z).length = P.cellsOf e ∧ (aQ z).all cT = true ∧ 0 < P.cellsOf e ∧ 0 < P.bytesOf e ∧ P.bytesOf e ≤ 1024 ∧ ∀ u ∈ zv.cells.toList,u.oneCell' = true := by
 unfold bM at he
 split at he
 ·rename_i z hz
  simp only [Bool.and_eq_true,decide_eq_true_eq,beq_iff_eq] at he
  obtain ⟨⟨⟨⟨h1,h2⟩,h3⟩,h4⟩,h5⟩ := he
  obtain ⟨i,zv,hi,hzv,hrun,hzr⟩ := N2 hz
  have hc := fun h ρ w I => LC (hzr h ρ w I) (IN hz)
  refine ⟨i,z,zv,hi,hz,hzv,hrun,hc,?_,h1,h2,h3,h4,h5,(aAd (hzr [] (fun _ => none) default (fun _ => False)) h2).2⟩
  have := j9 (hc [] (fun _ => none) default (fun _ => False))
  rw [h1] at this
  simpa using this.symm
 ·cases he
theorem sV {t e : TypeId} (h : bG P t = some e) : P.underlying t = some (.slice e) := by
 unfold bG at h
 split at h
 ·rename_i hu; cases h; exact hu
 ·cases h
theorem JS {w' : World} {ds : List D} {vs : List Value} {b : Nat} {C : Array Value} {E : TypeId} {fz : Nat × Nat} {l : List Value} (hb : w'.heap[b]? = some (.cells C E fz)) (hC : C.toList = vs ++ l) (hd : DRv w' I ds vs) (hone : ∀ u ∈ vs,u.oneCell' = true) : DRs w' I ds b 0 := by
 refine HO hd (fun k v hk => ?_)
 refine ⟨?_,hone v (List.mem_of_getElem? hk)⟩
 rw [Nat.zero_add,gZ hb]
 have hlt := (List.getElem?_eq_some_iff.1 hk).1
 have : C.toList[k]? = some v := by rw [hC,List.getElem?_append_left hlt]; exact hk
 simpa using this
theorem aFT {t : TypeId} {len : Nat} {parts : Array (Nat × Operand)} {ev : Operand → Value} {as : List A} {x : A} {h' : H} (he : sW P h t len ((parts.toList.map (·.1)).zip as) = some (x,h')) (r : Rel G h ρ w I) (ha : ARv h ρ w I as ((parts.toList.map (·.2)).map ev)) :
  ∃ u ρ' w' I',(Instr.buildSlice t len (parts.map fun (i,x) => (i,ev x))).run P w = .ok u w' ∧ Step G h ρ w I h' ρ' w' I' ∧ AR h' ρ' w' I' x u := by
 have hl : (parts.toList.map (·.1)).length = as.length := by rw [j9 ha]; simp
 unfold sW at he
 split at he
 ·rename_i e hel
  have hu := sV hel
  split at he
  ·rename_i z hz
   split at he
   ·rename_i hc
    obtain ⟨i,z',zv,hi,hz',hzv,hrun,hzr,hsz,hzl,hok,hpos,_,_,hone⟩ := H5 hc.1
    rw [hz] at hz'; cases hz'
    split at he
    ·rename_i cells hf
     split at he
     ·rename_i hokc
      split at he
      ·rename_i ds h1 hfr
       cases he
       have hzc := aAs (hzr h ρ w I) len
       have hp := FG (h := h) (ρ := ρ) (w := w) (I := I) (aI := fun i => some (i * P.cellsOf e,P.cellsOf e)) _ as _ hl ha
       have hzero : ((Array.range (len * P.cellsOf e)).map fun i => zv.cells[i % zv.cells.size]!).toList = (List.replicate len zv.cells.toList).flatten := by
        rw [Array.toList_map,Array.toList_range,← vG]
        simp [hsz]
       obtain ⟨C',h2,h3⟩ := OZ _ _ _ _ ((Array.range (len * P.cellsOf e)).map fun i => zv.cells[i % zv.cells.size]!) hf hp (by rw [hzero]; exact hzc)
       rw [MY] at h2
       have hones : ∀ u ∈ C'.toList,u.oneCell' = true := by
        intro u hu
        obtain ⟨k,hk⟩ := List.mem_iff_getElem?.1 hu
        have hlk : k < cells.length := by rw [j9 h3]; exact (List.getElem?_eq_some_iff.1 hk).1
        obtain ⟨u',hu',hau⟩ := ((iB _ _).1 h3).2 k cells[k] (by simp)
        rw [hk] at hu'; cases hu'
        exact aCJ hau (List.all_eq_true.1 hokc _ (by simp))
       obtain ⟨I1,s1,d1⟩ := aDh hfr r h3
       have g := Grew.push w (.cells C' e (0,0))
       have hnew : ({ w with heap := w.heap.push (.cells C' e (0,0)) } : World).heap[w.heap.size]? = some (.cells C' e (0,0)) := by simp
       have s2 := j4 s1.rel g (.arr ds (P.cellsOf e) 0) (some w.heap.size) (fun b hb => by cases hb; exact Nat.le_refl _) (fun ext => by
        simp only [OR,bP]
        exact ⟨hpos,fun hI => by have := s1.rel.imm _ hI; omega,C',e,(0,0),hnew,r8 _ _,JS (l := []) hnew (by simp) (x9 ext.imm _ _ d1) hones⟩)
       refine ⟨.slice (some ⟨w.heap.size,0,none⟩) len len,_,_,I1,?_,s1.trans s2,?_⟩
       ·by_cases h0 : len = 0
        ·subst h0
         have h2' : Instr.fill (fun i => some (i * P.cellsOf e,P.cellsOf e)) #[] (parts.toList.map fun x => (x.1,ev x.2)) = some C' := by simpa [show Array.range 0 = #[] from rfl] using h2
         simp [Instr.buildSlice,aT hu,eA hi,show Array.range 0 = #[] from rfl,h2',newRow,newObj,Sem.run]
        ·have hne : ¬ (len * P.cellsOf e = 0) := by have := Nat.mul_pos (show 0 < len by omega) hpos; omega
         have hle : ¬ (2 ^ 24 < len * P.cellsOf e) := by have := hc.2; omega
         simp [Instr.buildSlice,aT hu,eA hi,hrun,hle,hne,h2,newRow,newObj,Sem.run]
       ·simp only [AR]
        refine ⟨_,_,rfl,?_⟩
        have e1 : (h1 ++ [O.arr ds (P.cellsOf e) 0])[h1.length]? = some (.arr ds (P.cellsOf e) 0) := by simp
        have hcl : C'.size = len * P.cellsOf e := by
         have a1 := j9 h3
         have a2 : cells.length = (List.replicate len (aQ z)).flatten.length := aAh _ _ _ hf
         have a3 : C'.toList.length = C'.size := by simp
         rw [← a3,← a1,a2]
         simp [hzl]
        have hdl : ds.length = len * P.cellsOf e := by rw [((nB _ _).1 d1).1]; simpa using hcl
        simp only [slOK,e1,bP]
        exact ⟨Nat.le_refl _,fun _ => ⟨Nat.le_refl _,.inr ⟨trivial,by omega,C',e,(0,0),hnew,by omega⟩⟩⟩
      ·cases he
     ·cases he
    ·cases he
   ·cases he
  ·cases he
 ·cases he
end
end Ev
end Go.Proofs.Ytppdfjdfjfoddaa
namespace Go.Proofs.Ytppdfjdfjfoddaa
namespace Ev
variable {G : Gnd}
section
variable {P : Program} {h : H} {ρ : Rho} {w : World} {I : Nat → Prop}
theorem US : ∀ {cs : List A} {ds : List D} {vs : List Value},AB cs = some ds → ARv h ρ w I cs vs → DRv w I ds vs
 | [],ds,vs,he,ha => by
  simp only [AB,Option.some.injEq] at he; subst he
  simp only [ARv] at ha; simp only [DRv]; exact ha
 | c :: cs,ds,vs,he,ha => by
  simp only [ARv] at ha
  obtain ⟨v,rest,rfl,h1,h2⟩ := ha
  unfold AB at he
  split at he
  ·rename_i h0; cases h0
  ·rename_i x cs' h0
   cases h0
   simp only [Option.map_eq_some_iff] at he
   obtain ⟨ds',hds,rfl⟩ := he
   simp only [AR] at h1
   simp only [DRv]
   exact ⟨v,rest,rfl,h1,US hds h2⟩
  ·cases he
theorem aB6 {as bs : List D} {vs us : List Value} (ha : DRv w I as vs) (hb : DRv w I bs us) : DRv w I (as ++ bs) (vs ++ us) := by
 induction as generalizing vs with
 | nil => simp only [DRv] at ha; subst ha; simpa using hb
 | cons a as ih =>
  simp only [DRv] at ha
  obtain ⟨v,rest,rfl,h1,h2⟩ := ha
  simp only [List.cons_append,DRv]
  exact ⟨v,rest ++ us,rfl,h1,ih h2⟩
theorem aAo {zs : List D} {vs : List Value} (hz : DRv w I zs vs) : ∀ n,DRv w I (List.replicate n zs).flatten (List.replicate n vs).flatten
 | 0 => by simp [DRv]
 | n + 1 => by
  simp only [List.replicate_succ,List.flatten_cons]
  exact aB6 hz (aAo hz n)
theorem QR {n : Int} (h0 : 0 ≤ n) (h1 : n ≤ b5) : IntKind.i64.wrap n = n := by
 unfold b5 at h1
 simp [IntKind.wrap,IntKind.bits,IntKind.signed]
 omega
theorem aHC {t : TypeId} {k k' : IntKind} {l c : Int} {x : A} {h' : H} (he : lB P h t l c = some (x,h')) (r : Rel G h ρ w I) :
  ∃ u ρ' w',(Instr.makeSlice t (.int k l) (.int k' c)).run P w = .ok u w' ∧ Step G h ρ w I h' ρ' w' I ∧ AR h' ρ' w' I x u := by
 unfold lB at he
 split at he
 ·rename_i e hel
  have hu := sV hel
  split at he
  ·rename_i z hz
   split at he
   ·rename_i zs hzs
    split at he
    ·rename_i hc
     cases he
     obtain ⟨hel2,h0,hlc,hcm⟩ := hc
     obtain ⟨i,z',zv,hi,hz',hzv,hrun,hzr,hsz,hzl,hok,hpos,hb0,hb1,hone⟩ := H5 hel2
     rw [hz] at hz'; cases hz'
     have hbytes : i.bytes = P.bytesOf e := by simp [Program.bytesOf,hi]
     obtain ⟨l',rfl⟩ := Int.eq_ofNat_of_zero_le h0
     obtain ⟨c',rfl⟩ := Int.eq_ofNat_of_zero_le (Int.le_trans h0 hlc)
     have hlc' : l' ≤ c' := by omega
     have hcm' : c' ≤ b5 := by omega
     have wl : IntKind.i64.wrap (l' : Int) = l' := QR (by omega) (by omega)
     have wc : IntKind.i64.wrap (c' : Int) = c' := QR (by omega) (by omega)
     have hd := fun w I => US (h := []) (ρ := fun _ => none) (w := w) (I := I) hzs (hzr _ _ w I)
     have hzsl : zs.length = P.cellsOf e := by rw [((nB _ _).1 (hd w I)).1]; simpa using hsz
     have small : ∀ n : Nat,n ≤ b5 → ¬ ((P.bytesOf e : Int) * n > 2 ^ 48) := by
      intro n hn
      have h1 : P.bytesOf e * n ≤ 1024 * b5 := Nat.mul_le_mul hb1 hn
      have h2 : (1024 * b5 : Nat) ≤ 2 ^ 48 := by unfold b5; omega
      have h3 : ((P.bytesOf e * n : Nat) : Int) ≤ ((2 ^ 48 : Nat) : Int) := by exact_mod_cast Nat.le_trans h1 h2
      rw [Int.natCast_mul] at h3
      have h4 : ((2 ^ 48 : Nat) : Int) = 2 ^ 48 := by norm_cast
      omega
     have hcells : ((Array.range (c' * P.cellsOf e)).map fun j => zv.cells[j % zv.cells.size]!).toList = (List.replicate c' zv.cells.toList).flatten := by
      rw [Array.toList_map,Array.toList_range,← vG]
      simp [hsz]
     let C : Array Value := (Array.range (c' * P.cellsOf e)).map fun j => zv.cells[j % zv.cells.size]!
     have g := Grew.push w (.cells C e (0,0))
     have hnew : ({ w with heap := w.heap.push (.cells C e (0,0)) } : World).heap[w.heap.size]? = some (.cells C e (0,0)) := by simp
     have hCsz : C.size = c' * P.cellsOf e := by simp [C]
     have hsplit : C.toList = (List.replicate l' zv.cells.toList).flatten ++ (List.replicate (c' - l') zv.cells.toList).flatten := by
      show ((Array.range (c' * P.cellsOf e)).map fun j => zv.cells[j % zv.cells.size]!).toList = _
      rw [hcells,← List.flatten_append,List.replicate_append_replicate]
      congr 2; omega
     have s2 := j4 r g (.arr (List.replicate l' zs).flatten (P.cellsOf e) 0) (some w.heap.size) (fun b hb => by cases hb; exact Nat.le_refl _) (fun ext => by
      simp only [OR,bP]
      refine ⟨hpos,fun hI => by have := r.imm _ hI; omega,C,e,(0,0),hnew,r8 _ _,JS hnew hsplit (aAo (hd _ _) l') (fun u hu => ?_)⟩
      obtain ⟨l1,hl1,hu1⟩ := List.mem_flatten.1 hu
      rw [(List.mem_replicate.1 hl1).2] at hu1
      exact hone u hu1)
     refine ⟨.slice (some ⟨w.heap.size,0,none⟩) l' c',_,_,?_,s2,?_⟩
     ·have nc := small c' hcm'
      rw [← hbytes] at nc
      have l0 : ¬ ((l' : Int) < 0) := by omega
      have c0 : ¬ ((c' : Int) < 0) := by omega
      have nc' : ¬ ((281474976710656 : Int) < (i.bytes : Int) * c') := by omega
      rcases Nat.eq_zero_or_pos c' with hz0 | hz0
      ·subst hz0
       have hl0 : l' = 0 := by omega
       subst hl0
       simp [Instr.makeSlice,aT hu,asInt,asIntOf,x8 hi,show IntKind.i64.wrap 0 = 0 from by decide,eA hi,show Array.range 0 = #[] from rfl,newRow,newObj,Sem.run,C]
      ·have hne : ¬ (c' * P.cellsOf e = 0) := by have := Nat.mul_pos hz0 hpos; omega
       have hll : ¬ ((c' : Int) < l') := by omega
       simp [Instr.makeSlice,aT hu,asInt,asIntOf,x8 hi,wl,wc,nc',hll,l0,c0,eA hi,hne,hrun,newRow,newObj,Sem.run,C]
     ·simp only [AR,Int.toNat_natCast]
      refine ⟨_,_,rfl,?_⟩
      have e1 : (h ++ [O.arr (List.replicate l' zs).flatten (P.cellsOf e) 0])[h.length]? = some (.arr (List.replicate l' zs).flatten (P.cellsOf e) 0) := by simp
      have hdl : (List.replicate l' zs).flatten.length = l' * P.cellsOf e := by simp [hzsl]
      simp only [slOK,e1,bP]
      exact ⟨Nat.le_refl _,fun _ => ⟨hlc',.inr ⟨trivial,by omega,C,e,(0,0),hnew,by omega⟩⟩⟩
    ·cases he
   ·cases he
  ·cases he
 ·cases he
theorem HX {esz : Nat} {x : A} {xv : Value} {n : Nat} {ds : List D} (he : dO h esz x = some (n,ds)) (r : Rel G h ρ w I) (hx : AR h ρ w I x xv) :
  (∀ w',(Builtin.lenOf xv).run P w' = .ok n w') ∧ ds.length = n * esz ∧ ∃ vs,DRv w I ds vs ∧ (∀ u ∈ vs,u.oneCell' = true) ∧ ∀ w' : World,w'.heap = w.heap → (Builtin.firstCells esz n xv).run P w' = .ok vs.toArray w' := by
 have mem : ∀ (cs : List D) (b o cap : Nat),DRs w I cs b o → cs.length = n * esz → xv = .slice (some ⟨b,o,none⟩) n cap → ds = cs →
   (∀ w',(Builtin.lenOf xv).run P w' = .ok n w') ∧ ds.length = n * esz ∧ ∃ vs,DRv w I ds vs ∧ (∀ u ∈ vs,u.oneCell' = true) ∧ ∀ w' : World,w'.heap = w.heap → (Builtin.firstCells esz n xv).run P w' = .ok vs.toArray w' := by
  intro cs b o cap hd hl hxv hds
  subst hxv; subst hds
  obtain ⟨vs,h1,h2⟩ := DG (h := h) (ρ := ρ) (w := w) (I := I) (b := b) (ds.map .d) o (fun k c hk => by
   rw [List.getElem?_map] at hk
   cases hk' : ds[k]? with
   | none => rw [hk'] at hk; cases hk
   | some d =>
    rw [hk'] at hk; simp at hk; subst hk
    obtain ⟨u,hu,hdu,ho⟩ := (lG _ _ _).1 hd k d hk'
    exact ⟨u,hu,by simp only [AR]; exact hdu,ho⟩)
  rw [uB] at h1
  have hvl : vs.length = n * esz := by rw [← ((nB _ _).1 h1).1,hl]
  refine ⟨fun w' => rfl,hl,vs,h1,fun u hu => ?_,fun w' hw' => ?_⟩
  ·obtain ⟨k,hk⟩ := List.mem_iff_getElem?.1 hu
   exact (h2 k u hk).2
  ·have := run_loadCells' (P := P) (w := w') (b := b) (o := o) vs (fun k v hk => (kM (w := w) (w' := w') (by rw [hw'])).trans (h2 k v hk).1)
   rw [hvl] at this
   simpa [Builtin.firstCells] using this
 have nothing : ∀ (a : Option Addr) (cap : Nat),xv = .slice a 0 cap → n = 0 → ds = [] →
   (∀ w',(Builtin.lenOf xv).run P w' = .ok n w') ∧ ds.length = n * esz ∧ ∃ vs,DRv w I ds vs ∧ (∀ u ∈ vs,u.oneCell' = true) ∧ ∀ w' : World,w'.heap = w.heap → (Builtin.firstCells esz n xv).run P w' = .ok vs.toArray w' := by
  intro a cap hxv hn hds
  subst hxv; subst hn; subst hds
  refine ⟨fun w' => rfl,by simp,[],by simp only [DRv],by simp,fun w' _ => ?_⟩
  cases a <;> simp [Builtin.firstCells,loadCells,loadCellsFrom]
 unfold dO at he
 split at he
 ·cases he
  simp only [AR,DR] at hx
  obtain ⟨a,rfl⟩ := hx
  exact nothing a 0 rfl rfl rfl
 ·rename_i m cs
  split at he
  ·rename_i hl
   cases he
   simp only [AR,DR] at hx
   obtain ⟨a,cap,rfl,hcap,hc⟩ := hx
   rcases hc with rfl | ⟨b,o,rfl,hI,hd⟩
   ·cases a with
    | none =>
     refine ⟨fun w' => rfl,hl,[],by simp only [DRv],by simp,fun w' _ => by simp [Builtin.firstCells]⟩
    | some a =>
     have h0 : n * esz = 0 := by simpa using hl.symm
     exact ⟨fun w' => rfl,hl,[],by simp only [DRv],by simp,fun w' _ => by simp [Builtin.firstCells,h0,loadCells,loadCellsFrom]⟩
   ·exact mem ds b o cap hd hl rfl rfl
  ·cases he
 ·rename_i s
  split at he
  ·rename_i h1
   cases he
   subst h1
   simp only [AR,DR] at hx
   subst hx
   refine ⟨fun w' => by simp [Builtin.lenOf,ByteArray.size],by simp,s.map fun b => .int .u8 b.toNat,?_,?_,fun w' _ => ?_⟩
   ·rw [nB]
    refine ⟨by simp,fun k d hk => ?_⟩
    rw [List.getElem?_map] at hk ⊢
    cases hs : s[k]? with
    | none => rw [hs] at hk; cases hk
    | some b => rw [hs] at hk; simp at hk; subst hk; exact ⟨_,rfl,by simp only [DR]⟩
   ·intro u hu
    obtain ⟨b,_,rfl⟩ := List.mem_map.1 hu
    rfl
   ·simp [Builtin.firstCells]
  ·cases he
 ·rename_i id gen off len
  simp only [AR] at hx
  obtain ⟨a,cap,rfl,hs⟩ := hx
  cases hid : h[id]? with
  | none => rw [hid] at he; cases he
  | some o =>
   rw [hid] at he
   cases o with
   | box cs => cases he
   | vec cs e g => cases he
   | mp es => cases he
   | void => cases he
   | arr cs e g =>
    simp only [] at he
    split at he
    ·rename_i hc
     cases he
     simp only [slOK,hid] at hs
     have h3 := hs.2 hc.1.symm
     rcases Nat.eq_zero_or_pos n with h0 | h0
     ·subst h0; exact nothing a cap rfl rfl (by simp)
     ·have hO := r.obj id _ hid
      simp only [OR] at hO
      cases hρ : ρ id with
      | none => rw [hρ] at h3; have := h3.1; have := h3.2; simp only [] at this; omega
      | some b =>
       rw [hρ] at hO h3
       obtain ⟨_,_,C,E,fz,_,_,hd⟩ := hO
       rcases h3.2 with h4 | ⟨h4,_⟩
       ·have := h3.1; omega
       ·subst h4
        exact mem _ b off cap (by have := CZ (n * esz) (oK off hd); simpa using this) (by simp; have := hc.2.2; omega) rfl rfl
    ·cases he
   | ice cs e g =>
    simp only [] at he
    split at he
    ·rename_i hc
     cases he
     simp only [slOK,hid] at hs
     have h3 := hs.2 hc.1.symm
     rcases h3.2 with h0 | ⟨_,b,hb,hI,hd⟩
     ·subst h0; exact nothing a cap rfl rfl (by simp)
     ·subst hb
      exact mem _ b off cap (by have := CZ (n * esz) (oK off hd); simpa using this) (by simp; have := hc.2.2; omega) rfl rfl
    ·cases he
 ·cases he
theorem aED (need : Nat) : ∀ (r c : Nat),Builtin.growBy need r c ≤ max c (2 * need + 192)
 | 0,c => by simp only [Builtin.growBy]; omega
 | r + 1,c => by
  simp only [Builtin.growBy]
  split
  ·omega
  ·have := aED need r (c + (c + 768) / 4)
   omega
theorem aRC {need cap : Nat} (h : cap < need) : Builtin.nextslicecap need cap ≤ 2 * need + 512 := by
 unfold Builtin.nextslicecap
 split
 ·omega
 ·split
  ·omega
  ·have := aED need 4 cap
   omega
theorem yQ (z : Array Value) (n : Nat) : (Builtin.zeroCells z n).toList = (List.replicate n z.toList).flatten := by
 unfold Builtin.zeroCells
 rw [Array.toList_map,Array.toList_range,← vG]
 simp
theorem pD {t u e : TypeId} {ty : TypeId} {xv : Value} {n : Nat} {vs : List Value} {base : Option Addr} {sLen sCap : Nat} {i : TypeInfo} {d : TypeDesc}
  (hu : P.underlying t = some (.slice e)) (hi : P.info? e = some i) (hd : P.underlying u = some d) (hnd : ∀ k,d ≠ .int k) (hx : ∀ w',(Builtin.lenOf xv).run P w' = .ok n w') (hf : (Builtin.firstCells (P.cellsOf e) n xv).run P w = .ok vs.toArray w)
  (hroom : sLen + n ≤ sCap) {w' : World} (hst : ∀ a,base = some a → (storeCells (a.add (sLen * P.cellsOf e)) vs).run P w = .ok () w') (hno : base = none → w' = w) :
  (Builtin.append_ #[t,u] ty #[.slice base sLen sCap,xv]).run P w = .ok (.slice base (sLen + n) sCap) w' := by
 cases base with
 | none =>
  have := hno rfl; subst this
  simp [Builtin.append_,aT hu,eA hi,aT hd,hx,hroom,hf]
 | some a =>
  have := hst a rfl
  simp [Builtin.append_,aT hu,eA hi,aT hd,hx,hroom,hf,this]
theorem BB {t u e : TypeId} {ty : TypeId} {xv : Value} {n : Nat} {vs old : List Value} {base : Option Addr} {sLen sCap : Nat} {i : TypeInfo} {d : TypeDesc} {zv : Value}
  (hu : P.underlying t = some (.slice e)) (hi : P.info? e = some i) (hd : P.underlying u = some d) (hnd : ∀ k,d ≠ .int k) (hx : ∀ w',(Builtin.lenOf xv).run P w' = .ok n w')
  (hf : ∀ w' : World,w'.heap = w.heap → (Builtin.firstCells (P.cellsOf e) n xv).run P w' = .ok vs.toArray w') (ho : ∀ w' : World,w'.heap = w.heap → (Builtin.firstCells (P.cellsOf e) sLen (.slice base sLen sCap)).run P w' = .ok old.toArray w')
  (hz : ∀ w',(zeroValue e).run P w' = .ok zv w') (hb0 : 0 < P.bytesOf e) (hb : P.bytesOf e ≤ 1024) (hroom : ¬ sLen + n ≤ sCap) (hneed : sLen + n ≤ b5) :
  ∃ cap,sLen + n ≤ cap ∧ (Builtin.append_ #[t,u] ty #[.slice base sLen sCap,xv]).run P w =
   .ok (.slice (some ⟨w.heap.size,0,none⟩) (sLen + n) cap) (w.drew.alloc (.cells (old.toArray ++ (vs.toArray ++ Builtin.zeroCells zv.cells (cap - (sLen + n)))) e)) := by
 have hbytes : i.bytes = P.bytesOf e := by simp [Program.bytesOf,hi]
 let cap := (Question.appendCap (sLen + n) sCap e).cut (w.tape w.drawn (.appendCap (sLen + n) sCap e))
 have hcap : sLen + n ≤ cap := by simp [cap,Question.cut]
 refine ⟨cap,hcap,?_⟩
 have h1 : ¬ (((sLen + n : Nat) : Int) > IntKind.i64.max ∧ (false = true ∨ i.bytes = 0)) := by rintro ⟨_,h | h⟩ <;> first | cases h | omega
 have h2 : ¬ (Builtin.nextslicecap (sLen + n) sCap * i.bytes > 2 ^ 48) := by
  have a1 := aRC (need := sLen + n) (cap := sCap) (by omega)
  have a2 : Builtin.nextslicecap (sLen + n) sCap * i.bytes ≤ (2 * b5 + 512) * 1024 := Nat.mul_le_mul (by omega) (by omega)
  unfold b5 at a2
  omega
 have ho' := ho w.drew rfl
 have hf' := hf w.drew rfl
 have h1' : ¬ ((9223372036854775807 : Int) < (sLen : Int) + n ∧ i.bytes = 0) := by rintro ⟨_,h⟩; omega
 simp [Builtin.append_,aT hu,eA hi,aT hd,hx,hroom,x8 hi,h1',h2,Question.forced,ho',hf',hz,newRow,newObj,Sem.run,cap]
theorem Grew.drewAlloc (w : World) (o : Obj) : Grew w (w.drew.alloc o) := (Grew.drew w).trans (Grew.push _ o)
theorem jT (w : World) (o : Obj) : (w.drew.alloc o).heap[w.heap.size]? = some o := by
 show (w.heap.push o)[w.heap.size]? = some o
 simp
theorem QB {t u : TypeId} {ty : TypeId} {s x y : A} {sv xv : Value} {h' : H} {d : TypeDesc} (hd : P.underlying u = some d) (hnd : ∀ k,d ≠ .int k) (he : pS P h t s x = some (y,h')) (r : Rel G h ρ w I) (hs : AR h ρ w I s sv) (hx : AR h ρ w I x xv) :
  ∃ v ρ' w',(Builtin.append_ #[t,u] ty #[sv,xv]).run P w = .ok v w' ∧ Step G h ρ w I h' ρ' w' I ∧ AR h' ρ' w' I y v := by
 unfold pS at he
 split at he
 ·rename_i e hel
  have hu := sV hel
  split at he
  ·rename_i hok
   obtain ⟨i,z,zv,hi,hz,hzv,hrun,hzr,hsz,hzl,_,hpos,hb0,hb1,hone⟩ := H5 hok
   split at he
   ·rename_i n src hsrc
    obtain ⟨hlen,hsl,vs,hdv,hvone,hfirst⟩ := HX (P := P) hsrc r hx
    have hvl : vs.length = n * P.cellsOf e := by rw [← ((nB _ _).1 hdv).1,hsl]
    split at he
    ·-- a nil slice
     split at he
     ·rename_i hn
      cases he
      simp only [AR,DR] at hs
      obtain ⟨a,rfl⟩ := hs
      rcases Nat.eq_zero_or_pos n with h0 | h0
      ·subst h0
       have hv0 : vs = [] := List.length_eq_zero_iff.1 (by omega)
       have hs0 : src = [] := List.length_eq_zero_iff.1 (by omega)
       subst hv0; subst hs0
       have s1 := j4 r (Grew.refl w) (.arr [] (P.cellsOf e) 0) none (by simp) (fun _ => by simp [OR,bP])
       refine ⟨_,_,w,pD (base := a) (sLen := 0) (sCap := 0) hu hi hd hnd hlen (hfirst w rfl) (Nat.le_refl _) (fun b _ => by simp [storeCells]) (fun _ => rfl),s1,?_⟩
       simp only [AR]
       refine ⟨a,0,rfl,?_⟩
       have e1 : (h ++ [O.arr [] (P.cellsOf e) 0])[h.length]? = some (.arr [] (P.cellsOf e) 0) := by simp
       simp only [slOK,e1,bP]
       simp
      ·obtain ⟨cap,hcap,hrun2⟩ := BB (P := P) (ty := ty) (base := a) (sLen := 0) (sCap := 0) (old := []) hu hi hd hnd hlen hfirst (fun w' _ => by cases a <;> simp [Builtin.firstCells,loadCells,loadCellsFrom]) hrun hb0 hb1 (by omega) (by omega)
       have hC : (((#[] : Array Value) ++ (vs.toArray ++ Builtin.zeroCells zv.cells (cap - (0 + n))))).toList = vs ++ (Builtin.zeroCells zv.cells (cap - (0 + n))).toList := by simp
       have hCs : ((#[] : Array Value) ++ (vs.toArray ++ Builtin.zeroCells zv.cells (cap - (0 + n)))).size = cap * P.cellsOf e := by
        rw [← Array.length_toList,hC,List.length_append,yQ,hvl]
        simp [hsz]
        rw [← Nat.add_mul]; congr 1; omega
       have s1 := j4 r (Grew.drewAlloc w _) (.arr src (P.cellsOf e) 0) (some w.heap.size) (fun b hb => by cases hb; exact Nat.le_refl _) (fun ext => by
        simp only [OR,bP]
        exact ⟨hpos,fun hI => by have := r.imm _ hI; omega,_,e,(0,0),jT w _,r8 _ _,JS (jT w _) hC (x9 ext.imm _ _ hdv) hvone⟩)
       refine ⟨_,_,_,hrun2,s1,?_⟩
       simp only [AR]
       refine ⟨some ⟨w.heap.size,0,none⟩,cap,by simp,?_⟩
       have e1 : (h ++ [O.arr src (P.cellsOf e) 0])[h.length]? = some (.arr src (P.cellsOf e) 0) := by simp
       simp only [slOK,e1,bP]
       exact ⟨Nat.le_refl _,fun _ => ⟨by omega,.inr ⟨trivial,by omega,_,e,(0,0),jT w _,by rw [Nat.zero_add]; exact Nat.le_of_eq hCs.symm⟩⟩⟩
     ·cases he
    ·rename_i id gen off len
     split at he
     ·rename_i cs e0 g hid
      split at he
      ·rename_i hc
       cases he
       obtain ⟨hg,he0,hoff,hle,hneed⟩ := hc
       subst hg; subst hoff
       simp only [AR] at hs
       obtain ⟨a,cap,rfl,hs⟩ := hs
       simp only [slOK,hid] at hs
       obtain ⟨hlc,hs⟩ := hs.2 trivial
       have hlt : id < h.length := (List.getElem?_eq_some_iff.1 hid).1
       have hset : ∀ o,(h.set id o)[id]? = some o := fun o => by simp [hlt]
       have hO := r.obj id _ hid
       have hslk : ∀ (rb : Option Nat) (w' : World),Imm w I w' I → ∀ gen off' len' a' cap',slOK h ρ w I id gen off' len' a' cap' → slOK (h.set id (.arr (cs.take (len * P.cellsOf e) ++ src) (P.cellsOf e) (g + 1))) (upd ρ id rb) w' I id gen off' len' a' cap' := by
        intro rb w' _ gen off' len' a' cap' hh
        simp only [slOK,hid] at hh
        simp only [slOK,hset]
        exact ⟨by omega,fun h => by omega⟩
       have hptk : ∀ (rb : Option Nat) (w' : World),Imm w I w' I → ∀ gen b,ptOK h ρ w I id gen b → ptOK (h.set id (.arr (cs.take (len * P.cellsOf e) ++ src) (P.cellsOf e) (g + 1))) (upd ρ id rb) w' I id gen b := by
        intro rb w' _ gen b hh
        simp only [ptOK,hid] at hh
        simp only [ptOK,hset]
        exact ⟨by omega,fun h => by omega⟩
       have hold : ∃ old : List Value,DRv w I (cs.take (len * P.cellsOf e)) old ∧ (∀ u ∈ old,u.oneCell' = true) ∧ old.length = len * P.cellsOf e ∧
         ∀ w' : World,w'.heap = w.heap → (Builtin.firstCells (P.cellsOf e) len (.slice a len cap)).run P w' = .ok old.toArray w' := by
        have hsc : dO h (P.cellsOf e) (.sl id g 0 len) = some (len,(cs.drop 0).take (len * P.cellsOf e)) ∨ (e0 = 0 ∧ len ≠ 0) := by
         simp only [dO,hid]
         by_cases h0 : len = 0 ∨ e0 = P.cellsOf e
         ·left; rw [if_pos ⟨trivial,h0,by omega⟩]
         ·right; omega
        rcases hsc with hsc | ⟨hz0,hl0⟩
        ·obtain ⟨_,hl2,old,ho1,ho2,ho3⟩ := HX (P := P) hsc r (show AR h ρ w I (.sl id g 0 len) (.slice a len cap) from by
          simp only [AR,slOK,hid]; exact ⟨a,cap,rfl,Nat.le_refl _,fun _ => ⟨hlc,hs⟩⟩)
         simp only [List.drop_zero] at ho1 hl2
         exact ⟨old,ho1,ho2,by rw [← ((nB _ _).1 ho1).1,hl2],ho3⟩
        ·exfalso
         simp only [OR] at hO
         cases hρ : ρ id with
         | none => rw [hρ] at hs; simp only [] at hs; omega
         | some b => rw [hρ] at hO; omega
       obtain ⟨old,ho1,ho2,ho3,ho4⟩ := hold
       have hnew1 : DRv w I (cs.take (len * P.cellsOf e) ++ src) (old ++ vs) := aB6 ho1 hdv
       have hones : ∀ u ∈ old ++ vs,u.oneCell' = true := fun u hu => (List.mem_append.1 hu).elim (ho2 u) (hvone u)
       have hlen2 : (cs.take (len * P.cellsOf e) ++ src).length = (len + n) * P.cellsOf e := by
        rw [List.length_append,List.length_take,hsl,Nat.add_mul]; omega
       by_cases hroom : len + n ≤ cap
       ·-- in aI
        by_cases hcap0 : cap = 0
        ·have hl0 : len = 0 := by omega
         have hn0 : n = 0 := by omega
         subst hcap0; subst hl0; subst hn0
         have hv0 : vs = [] := List.length_eq_zero_iff.1 (by omega)
         have hs0 : src = [] := List.length_eq_zero_iff.1 (by omega)
         subst hv0; subst hs0
         have s1 := jZ (o' := .arr (cs.take (0 * P.cellsOf e) ++ []) (P.cellsOf e) (g + 1)) (w' := w) (I' := I) r hid trivial (ρ id) rfl rfl rfl (Nat.le_refl _) (fun _ _ _ => rfl) (fun _ hb => hb) (fun _ hb => .inl hb) (fun _ hb => .inl hb) (hslk _ w) (hptk _ w) (fun ext => by
          simp only [OR,d9] at hO ⊢
          cases hρ : ρ id with
          | none => simp
          | some b =>
           rw [hρ] at hO
           obtain ⟨hez,h2,C,E,fz,h3,h4,_⟩ := hO
           have hee : e0 = P.cellsOf e := by omega
           subst hee
           exact ⟨hpos,h2,C,E,fz,h3,h4,by simp [DRs]⟩)
         refine ⟨_,_,w,pD (base := a) (sLen := 0) (sCap := 0) hu hi hd hnd hlen (hfirst w rfl) (Nat.le_refl _) (fun b _ => by simp [storeCells]) (fun _ => rfl),s1,?_⟩
         simp only [AR]
         refine ⟨a,0,rfl,?_⟩
         simp only [slOK,hset,d9]
         refine ⟨Nat.le_refl _,fun _ => ⟨Nat.le_refl _,?_⟩⟩
         cases ρ id with
         | none => exact trivial
         | some b => exact .inl trivial
        ·simp only [OR] at hO
         cases hρ : ρ id with
         | none => rw [hρ] at hs; simp only [] at hs; omega
         | some b =>
          rw [hρ] at hs hO
          simp only [] at hs hO
          rcases hs with hs | ⟨ha,_,C2,E2,fz2,hC2,hcapC⟩
          ·omega
          ·subst ha
           obtain ⟨hez,hIb,C,E,fz,hC,hfz,hcs⟩ := hO
           rw [hC2] at hC; cases hC
           have hee : e0 = P.cellsOf e := by omega
           subst hee
           have hblt := (Array.getElem?_eq_some_iff.1 hC2).1
           have hfit : len * P.cellsOf e + vs.length ≤ C2.size := by
            have : (len + n) * P.cellsOf e ≤ cap * P.cellsOf e := Nat.mul_le_mul_right _ hroom
            rw [hvl,← Nat.add_mul]; omega
           obtain ⟨C',h1,h2,h3⟩ := HC (P := P) (o := len * P.cellsOf e) vs 0 C2 w hC2 hfz.1 (by omega) hvone
           have hst : (storeCells (Addr.add ⟨b,0,none⟩ (len * P.cellsOf e)) vs).run P w = .ok () (eW w b (.cells C' E2 fz2)) := by
            rw [qI,Nat.zero_add]; exact h1
           obtain ⟨f1,f2,f3,f4⟩ := uN (w := w) (b := b) (o := .cells C' E2 fz2)
           have s1 := jZ (o' := .arr (cs.take (len * P.cellsOf e) ++ src) (P.cellsOf e) (g + 1)) (w' := eW w b (.cells C' E2 fz2)) (I' := I) r hid trivial (ρ id) f1 f2 f3 (by rw [f4]; exact Nat.le_refl _)
            (fun k _ hne => uJ (fun e => hne (by rw [hρ,e]))) (fun _ hb => hb) (fun _ hb => .inl hb) (fun _ hb => .inl hb) (hslk _ _) (hptk _ _) (fun ext => by
             simp only [OR,hρ,bP]
             refine ⟨hpos,hIb,C',E2,fz2,kT hblt,hfz.keep (by omega),?_⟩
             refine HO (x9 ext.imm _ _ hnew1) (fun k v hk => ⟨?_,hones v (List.mem_of_getElem? hk)⟩)
             rw [Nat.zero_add,BE hblt,h3 k]
             by_cases hin : k < len * P.cellsOf e
             ·rw [if_neg (by omega)]
              rw [List.getElem?_append_left (by omega)] at hk
              have hk2 := ho4 w rfl
              obtain ⟨d0,hd0⟩ : ∃ d0,cs[k]? = some d0 := ⟨cs[k],by simp⟩
              obtain ⟨u0,hu0,_,_⟩ := (lG _ _ _).1 hcs k d0 hd0
              rw [gZ hC2,Nat.zero_add] at hu0
              rw [hu0]
              have hload := hk2
              simp only [Builtin.firstCells] at hload
              have hvals : ∃ vs2 : List Value,vs2.length = len * P.cellsOf e ∧ ∀ (j : Nat) (x : Value),vs2[j]? = some x → eJ w b (0 + j) = some x :=
               ⟨C2.toList.take (len * P.cellsOf e),by simp; omega,fun j x hj => by
                rw [Nat.zero_add,gZ hC2]
                rw [List.getElem?_take] at hj
                split at hj
                ·simpa using hj
                ·cases hj⟩
              obtain ⟨vs2,hv1,hv2⟩ := hvals
              have hl2 := run_loadCells' (P := P) (w := w) (b := b) (o := 0) vs2 hv2
              rw [hv1,hload] at hl2
              have : old = vs2 := by injection hl2 with hl2 _; simpa using hl2
              subst this
              have := hv2 k v hk
              rw [gZ hC2,Nat.zero_add,hu0] at this
              exact this
             ·have hlt2 := (List.getElem?_eq_some_iff.1 hk).1
              rw [List.length_append,ho3] at hlt2
              rw [if_pos (by omega)]
              rw [List.getElem?_append_right (by omega),ho3] at hk
              rw [Nat.add_zero]; exact hk)
           rw [d9] at s1
           refine ⟨_,ρ,_,pD (base := some ⟨b,0,none⟩) hu hi hd hnd hlen (hfirst w rfl) hroom (fun a ha => by cases ha; exact hst) (fun hh => by cases hh),s1,?_⟩
           simp only [AR]
           refine ⟨_,_,rfl,?_⟩
           simp only [slOK,hset,hρ]
           exact ⟨Nat.le_refl _,fun _ => ⟨hroom,.inr ⟨trivial,by omega,C',E2,fz2,kT hblt,by omega⟩⟩⟩
       ·-- a new row
        obtain ⟨ncap,hncap,hrun2⟩ := BB (P := P) (ty := ty) (base := a) (sLen := len) (sCap := cap) (old := old) hu hi hd hnd hlen hfirst ho4 hrun hb0 hb1 hroom hneed
        have hC : (old.toArray ++ (vs.toArray ++ Builtin.zeroCells zv.cells (ncap - (len + n)))).toList = (old ++ vs) ++ (Builtin.zeroCells zv.cells (ncap - (len + n))).toList := by simp
        have hCs : (old.toArray ++ (vs.toArray ++ Builtin.zeroCells zv.cells (ncap - (len + n)))).size = ncap * P.cellsOf e := by
         rw [← Array.length_toList,hC,List.length_append,List.length_append,yQ,hvl,ho3]
         simp [hsz]
         rw [← Nat.add_mul,← Nat.add_mul]; congr 1; omega
        have s1 := jZ (o' := .arr (cs.take (len * P.cellsOf e) ++ src) (P.cellsOf e) (g + 1)) (w' := w.drew.alloc (.cells (old.toArray ++ (vs.toArray ++ Builtin.zeroCells zv.cells (ncap - (len + n)))) e)) (I' := I) r hid trivial (some w.heap.size)
         (Grew.drewAlloc w _).os (Grew.drewAlloc w _).tape (Grew.drewAlloc w _).output (Grew.drewAlloc w _).size (fun k hk _ => (Grew.drewAlloc w _).same k hk) (fun _ hb => hb) (fun _ hb => .inl hb) (fun b hb => by cases hb; exact .inr (Nat.le_refl _)) (hslk _ _) (hptk _ _) (fun ext => by
          simp only [OR,bP]
          exact ⟨hpos,fun hI => by have := r.imm _ hI; omega,_,e,(0,0),jT w _,r8 _ _,JS (jT w _) hC (x9 ext.imm _ _ hnew1) hones⟩)
        refine ⟨_,_,_,hrun2,s1,?_⟩
        simp only [AR]
        refine ⟨_,_,rfl,?_⟩
        simp only [slOK,hset,bP]
        exact ⟨Nat.le_refl _,fun _ => ⟨hncap,.inr ⟨trivial,by omega,_,e,(0,0),jT w _,by rw [Nat.zero_add]; exact Nat.le_of_eq hCs.symm⟩⟩⟩
      ·cases he
     ·cases he
    ·cases he
   ·cases he
  ·cases he
 ·cases he
theorem aC1 {cs : List A} {vs : List Value} {b : Nat} (ha : ARv h ρ w I cs vs) (hc : ∀ (k : Nat) (v : Value),vs[k]? = some v → eJ w b k = some v ∧ v.oneCell' = true) : ARs h ρ w I cs b := by
 intro k c hk
 obtain ⟨_,hall⟩ := (iB cs vs).1 ha
 obtain ⟨v,hv,hav⟩ := hall k c hk
 exact ⟨v,(hc k v hv).1,hav,(hc k v hv).2⟩
theorem aAl {cs : List A} {vs rest : List Value} {C : Array Value} {E : TypeId} {fz : Nat × Nat} {b : Nat} (hb : w.heap[b]? = some (.cells C E fz)) (hC : C.toList = vs ++ rest) (ha : ARv h ρ w I cs vs) (ho : ∀ u ∈ vs,u.oneCell' = true) : ARs h ρ w I cs b :=
 aC1 ha fun k v hk => ⟨by
  rw [gZ hb,← Array.getElem?_toList,hC,List.getElem?_append_left (List.getElem?_eq_some_iff.1 hk).1]; exact hk,ho v (List.mem_of_getElem? hk)⟩
theorem ZR {esz : Nat} {x : A} {xv : Value} {n : Nat} {as : List A} (he : j7 h esz x = some (n,as)) (r : Rel G h ρ w I) (hx : AR h ρ w I x xv) :
  (∀ w',(Builtin.lenOf xv).run P w' = .ok n w') ∧ as.length = n * esz ∧ ∃ vs,ARv h ρ w I as vs ∧ (∀ u ∈ vs,u.oneCell' = true) ∧ ∀ w' : World,w'.heap = w.heap → (Builtin.firstCells esz n xv).run P w' = .ok vs.toArray w' := by
 have plain : (dO h esz x).map (fun r => (r.1,r.2.map A.d)) = some (n,as) → (∀ w',(Builtin.lenOf xv).run P w' = .ok n w') ∧ as.length = n * esz ∧ ∃ vs,ARv h ρ w I as vs ∧ (∀ u ∈ vs,u.oneCell' = true) ∧ ∀ w' : World,w'.heap = w.heap → (Builtin.firstCells esz n xv).run P w' = .ok vs.toArray w' := by
  intro hh
  obtain ⟨⟨m,ds⟩,h1,h2⟩ := Option.map_eq_some_iff.1 hh
  simp only [Prod.mk.injEq] at h2
  obtain ⟨rfl,rfl⟩ := h2
  obtain ⟨g1,g2,vs,g3,g4,g5⟩ := HX (P := P) h1 r hx
  exact ⟨g1,by simpa using g2,vs,(uB ds vs).2 g3,g4,g5⟩
 cases x with
 | sl id gen off len =>
  simp only [j7] at he
  cases hid : h[id]? with
  | none => rw [hid] at he; exact plain he
  | some o =>
   rw [hid] at he
   cases o with
   | arr cs e g => exact plain he
   | box cs => exact plain he
   | ice cs e g => exact plain he
   | mp es => exact plain he
   | void => exact plain he
   | vec cs e g =>
    simp only [] at he
    split at he
    ·rename_i hc
     cases he
     simp only [AR] at hx
     obtain ⟨a,cap,rfl,hs⟩ := hx
     simp only [slOK,hid] at hs
     have h3 := hs.2 hc.1.symm
     rcases Nat.eq_zero_or_pos n with h0 | h0
     ·subst h0
      refine ⟨fun w' => rfl,by simp,[],by simp [ARv],by simp,fun w' _ => ?_⟩
      cases a <;> simp [Builtin.firstCells,loadCells,loadCellsFrom]
     ·have hO := r.obj id _ hid
      simp only [OR] at hO
      cases hρ : ρ id with
      | none => rw [hρ] at h3; have := h3.1; have := h3.2; simp only [] at this; omega
      | some b =>
       rw [hρ] at hO h3
       obtain ⟨_,_,C,E,fz,_,_,hd⟩ := hO
       rcases h3.2 with h4 | ⟨h4,_⟩
       ·have := h3.1; omega
       ·subst h4
        have hl : ((cs.drop off).take (n * esz)).length = n * esz := by simp; have := hc.2.2; omega
        obtain ⟨vs,h1,h2⟩ := DG (h := h) (ρ := ρ) (w := w) (I := I) (b := b) ((cs.drop off).take (n * esz)) off (fun k c hk => by
         rw [List.getElem?_take] at hk
         split at hk
         ·exact hd (off + k) c (by simpa using hk)
         ·cases hk)
        have hvl : vs.length = n * esz := by rw [← j9 h1,hl]
        refine ⟨fun w' => rfl,hl,vs,h1,fun u hu => ?_,fun w' hw' => ?_⟩
        ·obtain ⟨k,hk⟩ := List.mem_iff_getElem?.1 hu
         exact (h2 k u hk).2
        ·have := run_loadCells' (P := P) (w := w') (b := b) (o := off) vs (fun k v hk => (kM (w := w) (w' := w') (by rw [hw'])).trans (h2 k v hk).1)
         rw [hvl] at this
         simpa [Builtin.firstCells] using this
    ·cases he
 | _ => simp only [j7] at he; exact plain he
theorem aCr {t u : TypeId} {ty : TypeId} {x y : A} {id gen off len : Nat} {sv xv : Value} {h' : H} {d : TypeDesc} (hd : P.underlying u = some d) (hnd : ∀ k,d ≠ .int k) (he : rS P h t id gen off len x = some (y,h')) (r : Rel G h ρ w I) (hs : AR h ρ w I (.sl id gen off len) sv) (hx : AR h ρ w I x xv) :
  ∃ v ρ' w',(Builtin.append_ #[t,u] ty #[sv,xv]).run P w = .ok v w' ∧ Step G h ρ w I h' ρ' w' I ∧ AR h' ρ' w' I y v := by
 unfold rS at he
 split at he
 ·rename_i e hel
  have hu := sV hel
  split at he
  ·rename_i hok
   obtain ⟨i,z,zv,hi,hz,hzv,hrun,hzr,hsz,hzl,_,hpos,hb0,hb1,hone⟩ := H5 hok
   split at he
   ·rename_i n src cs e0 g hsrc hid
    obtain ⟨hlen,hsl,vs,hdv,hvone,hfirst⟩ := ZR (P := P) hsrc r hx
    have hvl : vs.length = n * P.cellsOf e := by rw [← j9 hdv,hsl]
    split at he
    ·rename_i hc
     cases he
     obtain ⟨hg,he0,hoff,hle,hneed⟩ := hc
     subst hg; subst hoff
     simp only [AR] at hs
     obtain ⟨a,cap,rfl,hs⟩ := hs
     simp only [slOK,hid] at hs
     obtain ⟨hlc,hs⟩ := hs.2 trivial
     have hlt : id < h.length := (List.getElem?_eq_some_iff.1 hid).1
     have hset : ∀ o,(h.set id o)[id]? = some o := fun o => by simp [hlt]
     have hO := r.obj id _ hid
     have hslk : ∀ (rb : Option Nat) (w' : World),Imm w I w' I → ∀ gen off' len' a' cap',slOK h ρ w I id gen off' len' a' cap' → slOK (h.set id (.vec (cs.take (len * P.cellsOf e) ++ src) (P.cellsOf e) (g + 1))) (upd ρ id rb) w' I id gen off' len' a' cap' := by
      intro rb w' _ gen off' len' a' cap' hh
      simp only [slOK,hid] at hh
      simp only [slOK,hset]
      exact ⟨by omega,fun h => by omega⟩
     have hptk : ∀ (rb : Option Nat) (w' : World),Imm w I w' I → ∀ gen b,ptOK h ρ w I id gen b → ptOK (h.set id (.vec (cs.take (len * P.cellsOf e) ++ src) (P.cellsOf e) (g + 1))) (upd ρ id rb) w' I id gen b := by
      intro rb w' _ gen b hh
      simp only [ptOK,hid] at hh
      simp only [ptOK,hset]
      exact ⟨by omega,fun h => by omega⟩
     have hold : ∃ old : List Value,ARv h ρ w I (cs.take (len * P.cellsOf e)) old ∧ (∀ u ∈ old,u.oneCell' = true) ∧ old.length = len * P.cellsOf e ∧
       ∀ w' : World,w'.heap = w.heap → (Builtin.firstCells (P.cellsOf e) len (.slice a len cap)).run P w' = .ok old.toArray w' := by
      have hsc : j7 h (P.cellsOf e) (.sl id g 0 len) = some (len,(cs.drop 0).take (len * P.cellsOf e)) ∨ (e0 = 0 ∧ len ≠ 0) := by
       simp only [j7,hid]
       by_cases h0 : len = 0 ∨ e0 = P.cellsOf e
       ·left; rw [if_pos ⟨trivial,h0,by omega⟩]
       ·right; omega
      rcases hsc with hsc | ⟨hz0,hl0⟩
      ·obtain ⟨_,hl2,old,ho1,ho2,ho3⟩ := ZR (P := P) hsc r (show AR h ρ w I (.sl id g 0 len) (.slice a len cap) from by
        simp only [AR,slOK,hid]; exact ⟨a,cap,rfl,Nat.le_refl _,fun _ => ⟨hlc,hs⟩⟩)
       simp only [List.drop_zero] at ho1 hl2
       exact ⟨old,ho1,ho2,by rw [← j9 ho1,hl2],ho3⟩
      ·exfalso
       simp only [OR] at hO
       cases hρ : ρ id with
       | none => rw [hρ] at hs; simp only [] at hs; omega
       | some b => rw [hρ] at hO; omega
     obtain ⟨old,ho1,ho2,ho3,ho4⟩ := hold
     have hnew1 : ARv h ρ w I (cs.take (len * P.cellsOf e) ++ src) (old ++ vs) := vC ho1 hdv
     have hones : ∀ u ∈ old ++ vs,u.oneCell' = true := fun u hu => (List.mem_append.1 hu).elim (ho2 u) (hvone u)
     have hlen2 : (cs.take (len * P.cellsOf e) ++ src).length = (len + n) * P.cellsOf e := by
      rw [List.length_append,List.length_take,hsl,Nat.add_mul]; omega
     by_cases hroom : len + n ≤ cap
     ·-- in aI
      by_cases hcap0 : cap = 0
      ·have hl0 : len = 0 := by omega
       have hn0 : n = 0 := by omega
       subst hcap0; subst hl0; subst hn0
       have hv0 : vs = [] := List.length_eq_zero_iff.1 (by omega)
       have hs0 : src = [] := List.length_eq_zero_iff.1 (by omega)
       subst hv0; subst hs0
       have s1 := jZ (o' := .vec (cs.take (0 * P.cellsOf e) ++ []) (P.cellsOf e) (g + 1)) (w' := w) (I' := I) r hid trivial (ρ id) rfl rfl rfl (Nat.le_refl _) (fun _ _ _ => rfl) (fun _ hb => hb) (fun _ hb => .inl hb) (fun _ hb => .inl hb) (hslk _ w) (hptk _ w) (fun ext => by
        simp only [OR,d9] at hO ⊢
        cases hρ : ρ id with
        | none => simp
        | some b =>
         rw [hρ] at hO
         obtain ⟨hez,h2,C,E,fz,h3,h4,_⟩ := hO
         have hee : e0 = P.cellsOf e := by omega
         subst hee
         exact ⟨hpos,h2,C,E,fz,h3,h4,fun k c hk => by simp at hk⟩)
       refine ⟨_,_,w,pD (base := a) (sLen := 0) (sCap := 0) hu hi hd hnd hlen (hfirst w rfl) (Nat.le_refl _) (fun b _ => by simp [storeCells]) (fun _ => rfl),s1,?_⟩
       simp only [AR]
       refine ⟨a,0,rfl,?_⟩
       simp only [slOK,hset,d9]
       refine ⟨Nat.le_refl _,fun _ => ⟨Nat.le_refl _,?_⟩⟩
       cases ρ id with
       | none => exact trivial
       | some b => exact .inl trivial
      ·simp only [OR] at hO
       cases hρ : ρ id with
       | none => rw [hρ] at hs; simp only [] at hs; omega
       | some b =>
        rw [hρ] at hs hO
        simp only [] at hs hO
        rcases hs with hs | ⟨ha,_,C2,E2,fz2,hC2,hcapC⟩
        ·omega
        ·subst ha
         obtain ⟨hez,hIb,C,E,fz,hC,hfz,hcs⟩ := hO
         rw [hC2] at hC; cases hC
         have hee : e0 = P.cellsOf e := by omega
         subst hee
         have hblt := (Array.getElem?_eq_some_iff.1 hC2).1
         have hfit : len * P.cellsOf e + vs.length ≤ C2.size := by
          have : (len + n) * P.cellsOf e ≤ cap * P.cellsOf e := Nat.mul_le_mul_right _ hroom
          rw [hvl,← Nat.add_mul]; omega
         obtain ⟨C',h1,h2,h3⟩ := HC (P := P) (o := len * P.cellsOf e) vs 0 C2 w hC2 hfz.1 (by omega) hvone
         have hst : (storeCells (Addr.add ⟨b,0,none⟩ (len * P.cellsOf e)) vs).run P w = .ok () (eW w b (.cells C' E2 fz2)) := by
          rw [qI,Nat.zero_add]; exact h1
         obtain ⟨f1,f2,f3,f4⟩ := uN (w := w) (b := b) (o := .cells C' E2 fz2)
         have s1 := jZ (o' := .vec (cs.take (len * P.cellsOf e) ++ src) (P.cellsOf e) (g + 1)) (w' := eW w b (.cells C' E2 fz2)) (I' := I) r hid trivial (ρ id) f1 f2 f3 (by rw [f4]; exact Nat.le_refl _)
          (fun k _ hne => uJ (fun e => hne (by rw [hρ,e]))) (fun _ hb => hb) (fun _ hb => .inl hb) (fun _ hb => .inl hb) (hslk _ _) (hptk _ _) (fun ext => by
           simp only [OR,hρ,bP]
           refine ⟨hpos,hIb,C',E2,fz2,kT hblt,hfz.keep (by omega),?_⟩
           rw [hρ] at ext
           refine aC1 (jM ext _ _ hnew1) (fun k v hk => ⟨?_,hones v (List.mem_of_getElem? hk)⟩)
           rw [BE hblt,h3 k]
           by_cases hin : k < len * P.cellsOf e
           ·rw [if_neg (by omega)]
            rw [List.getElem?_append_left (by omega)] at hk
            have hk2 := ho4 w rfl
            obtain ⟨d0,hd0⟩ : ∃ d0,cs[k]? = some d0 := ⟨cs[k],by simp⟩
            obtain ⟨u0,hu0,_,_⟩ := hcs k d0 hd0
            rw [gZ hC2] at hu0
            rw [hu0]
            have hload := hk2
            simp only [Builtin.firstCells] at hload
            have hvals : ∃ vs2 : List Value,vs2.length = len * P.cellsOf e ∧ ∀ (j : Nat) (x : Value),vs2[j]? = some x → eJ w b (0 + j) = some x :=
             ⟨C2.toList.take (len * P.cellsOf e),by simp; omega,fun j x hj => by
              rw [Nat.zero_add,gZ hC2]
              rw [List.getElem?_take] at hj
              split at hj
              ·simpa using hj
              ·cases hj⟩
            obtain ⟨vs2,hv1,hv2⟩ := hvals
            have hl2 := run_loadCells' (P := P) (w := w) (b := b) (o := 0) vs2 hv2
            rw [hv1,hload] at hl2
            have : old = vs2 := by injection hl2 with hl2 _; simpa using hl2
            subst this
            have := hv2 k v hk
            rw [gZ hC2,Nat.zero_add,hu0] at this
            exact this
           ·have hlt2 := (List.getElem?_eq_some_iff.1 hk).1
            rw [List.length_append,ho3] at hlt2
            rw [if_pos (by omega)]
            rw [List.getElem?_append_right (by omega),ho3] at hk
            rw [Nat.add_zero]; exact hk)
         rw [d9] at s1
         refine ⟨_,ρ,_,pD (base := some ⟨b,0,none⟩) hu hi hd hnd hlen (hfirst w rfl) hroom (fun a ha => by cases ha; exact hst) (fun hh => by cases hh),s1,?_⟩
         simp only [AR]
         refine ⟨_,_,rfl,?_⟩
         simp only [slOK,hset,hρ]
         exact ⟨Nat.le_refl _,fun _ => ⟨hroom,.inr ⟨trivial,by omega,C',E2,fz2,kT hblt,by omega⟩⟩⟩
     ·-- a new row
      obtain ⟨ncap,hncap,hrun2⟩ := BB (P := P) (ty := ty) (base := a) (sLen := len) (sCap := cap) (old := old) hu hi hd hnd hlen hfirst ho4 hrun hb0 hb1 hroom hneed
      have hC : (old.toArray ++ (vs.toArray ++ Builtin.zeroCells zv.cells (ncap - (len + n)))).toList = (old ++ vs) ++ (Builtin.zeroCells zv.cells (ncap - (len + n))).toList := by simp
      have hCs : (old.toArray ++ (vs.toArray ++ Builtin.zeroCells zv.cells (ncap - (len + n)))).size = ncap * P.cellsOf e := by
       rw [← Array.length_toList,hC,List.length_append,List.length_append,yQ,hvl,ho3]
       simp [hsz]
       rw [← Nat.add_mul,← Nat.add_mul]; congr 1; omega
      have s1 := jZ (o' := .vec (cs.take (len * P.cellsOf e) ++ src) (P.cellsOf e) (g + 1)) (w' := w.drew.alloc (.cells (old.toArray ++ (vs.toArray ++ Builtin.zeroCells zv.cells (ncap - (len + n)))) e)) (I' := I) r hid trivial (some w.heap.size)
       (Grew.drewAlloc w _).os (Grew.drewAlloc w _).tape (Grew.drewAlloc w _).output (Grew.drewAlloc w _).size (fun k hk _ => (Grew.drewAlloc w _).same k hk) (fun _ hb => hb) (fun _ hb => .inl hb) (fun b hb => by cases hb; exact .inr (Nat.le_refl _)) (hslk _ _) (hptk _ _) (fun ext => by
        simp only [OR,bP]
        exact ⟨hpos,fun hI => by have := r.imm _ hI; omega,_,e,(0,0),jT w _,r8 _ _,aAl (jT w _) hC (jM ext _ _ hnew1) hones⟩)
      refine ⟨_,_,_,hrun2,s1,?_⟩
      simp only [AR]
      refine ⟨_,_,rfl,?_⟩
      simp only [slOK,hset,bP]
      exact ⟨Nat.le_refl _,fun _ => ⟨hncap,.inr ⟨trivial,by omega,_,e,(0,0),jT w _,by rw [Nat.zero_add]; exact Nat.le_of_eq hCs.symm⟩⟩⟩
    ·cases he
   ·cases he
  ·cases he
 ·cases he
theorem aFy {h : H} {id e g : Nat} (hem : J2 h id = some (e,g)) : h[id]? = some (.arr [] e g) := by
 unfold J2 at hem
 split at hem
 ·rename_i hh; cases hem; exact hh
 ·cases hem
theorem aO4 {id e g : Nat} (r : Rel G h ρ w I) (hid : h[id]? = some (.arr [] e g)) : Step G h ρ w I (h.set id (.vec [] e g)) ρ w I := by
 have hlt : id < h.length := (List.getElem?_eq_some_iff.1 hid).1
 have at_id : (h.set id (.vec [] e g))[id]? = some (.vec [] e g) := by simp [hlt]
 have hO := r.obj id _ hid
 have s := jZ (o' := .vec [] e g) (w' := w) (I' := I) r hid trivial (ρ id) rfl rfl rfl (Nat.le_refl _) (fun _ _ _ => rfl) (fun _ hb => hb) (fun _ hb => .inl hb) (fun _ hb => .inl hb)
  (fun _ gen off len a cap hs => by
   rw [d9]
   simp only [slOK,hid] at hs
   simp only [slOK,at_id]
   exact hs)
  (fun _ gen b hs => by
   rw [d9]
   simp only [ptOK,hid] at hs
   simp only [ptOK,at_id]
   exact hs)
  (fun _ => by
   rw [d9]
   simp only [OR] at hO ⊢
   cases hρ : ρ id with
   | none => trivial
   | some b =>
    rw [hρ] at hO
    obtain ⟨h1,h2,C,E,fz,h3,h4,_⟩ := hO
    exact ⟨h1,h2,C,E,fz,h3,h4,fun k c hk => by simp at hk⟩)
 rw [d9] at s
 exact s
theorem aLY {t u : TypeId} {ty : TypeId} {s x y : A} {sv xv : Value} {h' : H} {d : TypeDesc} (hd : P.underlying u = some d) (hnd : ∀ k,d ≠ .int k) (he : kB P h t s x = some (y,h')) (r : Rel G h ρ w I) (hs : AR h ρ w I s sv) (hx : AR h ρ w I x xv) :
  ∃ v ρ' w',(Builtin.append_ #[t,u] ty #[sv,xv]).run P w = .ok v w' ∧ Step G h ρ w I h' ρ' w' I ∧ AR h' ρ' w' I y v := by
 unfold kB at he
 split at he
 ·split at he
  ·exact aCr hd hnd he r hs hx
  ·split at he
   ·split at he
    ·rename_i e g hem
     have s1 := aO4 r (aFy hem)
     obtain ⟨v,ρ',w',h1,h2,h3⟩ := aCr hd hnd he s1.rel (m5 s1.ext _ _ hs) (m5 s1.ext _ _ hx)
     exact ⟨v,ρ',w',h1,s1.trans h2,h3⟩
    ·exact QB hd hnd he r hs hx
   ·exact QB hd hnd he r hs hx
 ·exact QB hd hnd he r hs hx
theorem aKt {t : TypeId} {k k' : IntKind} {l c : Int} {x : A} {h' : H} (he : IQ P h t l c = some (x,h')) (r : Rel G h ρ w I) :
  ∃ u ρ' w',(Instr.makeSlice t (.int k l) (.int k' c)).run P w = .ok u w' ∧ Step G h ρ w I h' ρ' w' I ∧ AR h' ρ' w' I x u := by
 unfold IQ at he
 split at he
 ·rename_i e hel
  have hu := sV hel
  split at he
  ·rename_i z hz
   split at he
   ·rename_i zs hzs
    split at he
    ·rename_i hc
     cases he
     obtain ⟨hel2,h0,hlc,hcm⟩ := hc
     obtain ⟨i,z',zv,hi,hz',hzv,hrun,hzr,hsz,hzl,hok,hpos,hb0,hb1,hone⟩ := H5 hel2
     rw [hz] at hz'; cases hz'
     have hbytes : i.bytes = P.bytesOf e := by simp [Program.bytesOf,hi]
     obtain ⟨l',rfl⟩ := Int.eq_ofNat_of_zero_le h0
     obtain ⟨c',rfl⟩ := Int.eq_ofNat_of_zero_le (Int.le_trans h0 hlc)
     have hlc' : l' ≤ c' := by omega
     have hcm' : c' ≤ b5 := by omega
     have wl : IntKind.i64.wrap (l' : Int) = l' := QR (by omega) (by omega)
     have wc : IntKind.i64.wrap (c' : Int) = c' := QR (by omega) (by omega)
     have hd := fun w I => US (h := []) (ρ := fun _ => none) (w := w) (I := I) hzs (hzr _ _ w I)
     have hzsl : zs.length = P.cellsOf e := by rw [((nB _ _).1 (hd w I)).1]; simpa using hsz
     have small : ∀ n : Nat,n ≤ b5 → ¬ ((P.bytesOf e : Int) * n > 2 ^ 48) := by
      intro n hn
      have h1 : P.bytesOf e * n ≤ 1024 * b5 := Nat.mul_le_mul hb1 hn
      have h2 : (1024 * b5 : Nat) ≤ 2 ^ 48 := by unfold b5; omega
      have h3 : ((P.bytesOf e * n : Nat) : Int) ≤ ((2 ^ 48 : Nat) : Int) := by exact_mod_cast Nat.le_trans h1 h2
      rw [Int.natCast_mul] at h3
      have h4 : ((2 ^ 48 : Nat) : Int) = 2 ^ 48 := by norm_cast
      omega
     have hcells : ((Array.range (c' * P.cellsOf e)).map fun j => zv.cells[j % zv.cells.size]!).toList = (List.replicate c' zv.cells.toList).flatten := by
      rw [Array.toList_map,Array.toList_range,← vG]
      simp [hsz]
     let C : Array Value := (Array.range (c' * P.cellsOf e)).map fun j => zv.cells[j % zv.cells.size]!
     have g := Grew.push w (.cells C e (0,0))
     have hnew : ({ w with heap := w.heap.push (.cells C e (0,0)) } : World).heap[w.heap.size]? = some (.cells C e (0,0)) := by simp
     have hCsz : C.size = c' * P.cellsOf e := by simp [C]
     have hsplit : C.toList = (List.replicate l' zv.cells.toList).flatten ++ (List.replicate (c' - l') zv.cells.toList).flatten := by
      show ((Array.range (c' * P.cellsOf e)).map fun j => zv.cells[j % zv.cells.size]!).toList = _
      rw [hcells,← List.flatten_append,List.replicate_append_replicate]
      congr 2; omega
     have s2 := j4 r g (.vec ((List.replicate l' zs).flatten.map .d) (P.cellsOf e) 0) (some w.heap.size) (fun b hb => by cases hb; exact Nat.le_refl _) (fun ext => by
      simp only [OR,bP]
      refine ⟨hpos,fun hI => by have := r.imm _ hI; omega,C,e,(0,0),hnew,r8 _ _,aAl hnew hsplit ((uB _ _).2 (aAo (hd _ _) l')) (fun u hu => ?_)⟩
      obtain ⟨l1,hl1,hu1⟩ := List.mem_flatten.1 hu
      rw [(List.mem_replicate.1 hl1).2] at hu1
      exact hone u hu1)
     refine ⟨.slice (some ⟨w.heap.size,0,none⟩) l' c',_,_,?_,s2,?_⟩
     ·have nc := small c' hcm'
      rw [← hbytes] at nc
      have l0 : ¬ ((l' : Int) < 0) := by omega
      have c0 : ¬ ((c' : Int) < 0) := by omega
      have nc' : ¬ ((281474976710656 : Int) < (i.bytes : Int) * c') := by omega
      rcases Nat.eq_zero_or_pos c' with hz0 | hz0
      ·subst hz0
       have hl0 : l' = 0 := by omega
       subst hl0
       simp [Instr.makeSlice,aT hu,asInt,asIntOf,x8 hi,show IntKind.i64.wrap 0 = 0 from by decide,eA hi,show Array.range 0 = #[] from rfl,newRow,newObj,Sem.run,C]
      ·have hne : ¬ (c' * P.cellsOf e = 0) := by have := Nat.mul_pos hz0 hpos; omega
       have hll : ¬ ((c' : Int) < l') := by omega
       simp [Instr.makeSlice,aT hu,asInt,asIntOf,x8 hi,wl,wc,nc',hll,l0,c0,eA hi,hne,hrun,newRow,newObj,Sem.run,C]
     ·simp only [AR,Int.toNat_natCast]
      refine ⟨_,_,rfl,?_⟩
      have e1 : (h ++ [O.vec ((List.replicate l' zs).flatten.map .d) (P.cellsOf e) 0])[h.length]? = some (.vec ((List.replicate l' zs).flatten.map .d) (P.cellsOf e) 0) := by simp
      have hdl : ((List.replicate l' zs).flatten.map A.d).length = l' * P.cellsOf e := by simp [hzsl]
      simp only [slOK,e1,bP]
      exact ⟨Nat.le_refl _,fun _ => ⟨hlc',.inr ⟨trivial,by omega,C,e,(0,0),hnew,by omega⟩⟩⟩
    ·cases he
   ·cases he
  ·cases he
 ·cases he
theorem aIk {t : TypeId} {len : Nat} {parts : Array (Nat × Operand)} {ev : Operand → Value} {as : List A} {x : A} {h' : H} (he : tV P h t len ((parts.toList.map (·.1)).zip as) = some (x,h')) (r : Rel G h ρ w I) (ha : ARv h ρ w I as ((parts.toList.map (·.2)).map ev)) :
  ∃ u ρ' w' I',(Instr.buildSlice t len (parts.map fun (i,x) => (i,ev x))).run P w = .ok u w' ∧ Step G h ρ w I h' ρ' w' I' ∧ AR h' ρ' w' I' x u := by
 have hl : (parts.toList.map (·.1)).length = as.length := by rw [j9 ha]; simp
 unfold tV at he
 split at he
 ·rename_i e hel
  have hu := sV hel
  split at he
  ·rename_i z hz
   split at he
   ·rename_i hc
    obtain ⟨i,z',zv,hi,hz',hzv,hrun,hzr,hsz,hzl,hok,hpos,_,_,hone⟩ := H5 hc.1
    rw [hz] at hz'; cases hz'
    split at he
    ·rename_i cells hf
     split at he
     ·rename_i hokc
      ·cases he
       have hzc := aAs (hzr h ρ w I) len
       have hp := FG (h := h) (ρ := ρ) (w := w) (I := I) (aI := fun i => some (i * P.cellsOf e,P.cellsOf e)) _ as _ hl ha
       have hzero : ((Array.range (len * P.cellsOf e)).map fun i => zv.cells[i % zv.cells.size]!).toList = (List.replicate len zv.cells.toList).flatten := by
        rw [Array.toList_map,Array.toList_range,← vG]
        simp [hsz]
       obtain ⟨C',h2,h3⟩ := OZ _ _ _ _ ((Array.range (len * P.cellsOf e)).map fun i => zv.cells[i % zv.cells.size]!) hf hp (by rw [hzero]; exact hzc)
       rw [MY] at h2
       have hones : ∀ u ∈ C'.toList,u.oneCell' = true := by
        intro u hu
        obtain ⟨k,hk⟩ := List.mem_iff_getElem?.1 hu
        have hlk : k < cells.length := by rw [j9 h3]; exact (List.getElem?_eq_some_iff.1 hk).1
        obtain ⟨u',hu',hau⟩ := ((iB _ _).1 h3).2 k cells[k] (by simp)
        rw [hk] at hu'; cases hu'
        exact aCJ hau (List.all_eq_true.1 hokc _ (by simp))
       have g := Grew.push w (.cells C' e (0,0))
       have hnew : ({ w with heap := w.heap.push (.cells C' e (0,0)) } : World).heap[w.heap.size]? = some (.cells C' e (0,0)) := by simp
       have s2 := j4 r g (.vec cells (P.cellsOf e) 0) (some w.heap.size) (fun b hb => by cases hb; exact Nat.le_refl _) (fun ext => by
        simp only [OR,bP]
        exact ⟨hpos,fun hI => by have := r.imm _ hI; omega,C',e,(0,0),hnew,r8 _ _,aAl (rest := []) hnew (by simp) (jM ext _ _ h3) hones⟩)
       refine ⟨.slice (some ⟨w.heap.size,0,none⟩) len len,_,_,I,?_,s2,?_⟩
       ·by_cases h0 : len = 0
        ·subst h0
         have h2' : Instr.fill (fun i => some (i * P.cellsOf e,P.cellsOf e)) #[] (parts.toList.map fun x => (x.1,ev x.2)) = some C' := by simpa [show Array.range 0 = #[] from rfl] using h2
         simp [Instr.buildSlice,aT hu,eA hi,show Array.range 0 = #[] from rfl,h2',newRow,newObj,Sem.run]
        ·have hne : ¬ (len * P.cellsOf e = 0) := by have := Nat.mul_pos (show 0 < len by omega) hpos; omega
         have hle : ¬ (2 ^ 24 < len * P.cellsOf e) := by have := hc.2; omega
         simp [Instr.buildSlice,aT hu,eA hi,hrun,hle,hne,h2,newRow,newObj,Sem.run]
       ·simp only [AR]
        refine ⟨_,_,rfl,?_⟩
        have e1 : (h ++ [O.vec cells (P.cellsOf e) 0])[h.length]? = some (.vec cells (P.cellsOf e) 0) := by simp
        have hcl : C'.size = len * P.cellsOf e := by
         have a1 := j9 h3
         have a2 : cells.length = (List.replicate len (aQ z)).flatten.length := aAh _ _ _ hf
         have a3 : C'.toList.length = C'.size := by simp
         rw [← a3,← a1,a2]
         simp [hzl]
        have hdl : cells.length = len * P.cellsOf e := by rw [j9 h3]; simpa using hcl
        simp only [slOK,e1,bP]
        exact ⟨Nat.le_refl _,fun _ => ⟨Nat.le_refl _,.inr ⟨trivial,by omega,C',e,(0,0),hnew,by omega⟩⟩⟩
     ·cases he
    ·cases he
   ·cases he
  ·cases he
 ·cases he
end
end Ev
end Go.Proofs.Ytppdfjdfjfoddaa
namespace Go.Proofs.Ytppdfjdfjfoddaa
namespace Ev
variable {G : Gnd}
section
variable {P : Program} {h : H} {ρ : Rho} {w : World} {I : Nat → Prop}
theorem aCS (f : Int → UInt8) : ∀ (ns : List Int) (acc : ByteArray),(ns.foldl (fun r n => r.push (f n)) acc).data.toList = acc.data.toList ++ ns.map f
 | [],acc => by simp
 | n :: ns,acc => by
  simp only [List.foldl_cons,List.map_cons]
  rw [aCS f ns]
  simp [ByteArray.push]
theorem aEp : ∀ {ds : List D} {bs : List UInt8} {vs : List Value},IG ds = some bs → DRv w I ds vs → ∃ ns : List Int,vs = ns.map (Value.int .u8) ∧ bs = ns.map fun n => UInt8.ofNat n.toNat
 | [],bs,vs,he,hd => by
  simp only [IG,Option.some.injEq] at he; subst he
  simp only [DRv] at hd; subst hd
  exact ⟨[],rfl,rfl⟩
 | d :: ds,bs,vs,he,hd => by
  simp only [DRv] at hd
  obtain ⟨v,rest,rfl,h1,h2⟩ := hd
  unfold IG at he
  split at he
  ·rename_i h0; cases h0
  ·rename_i n ds' h0
   cases h0
   simp only [Option.map_eq_some_iff] at he
   obtain ⟨bs',hbs,rfl⟩ := he
   obtain ⟨ns,rfl,rfl⟩ := aEp hbs h2
   simp only [DR] at h1
   subst h1
   exact ⟨n :: ns,rfl,rfl⟩
  ·cases he
theorem aIM {s : ByteArray} {l : List UInt8} (h : s.data.toList = l) : s = ⟨l.toArray⟩ := by
 cases s with
 | mk d => simp only at h; rw [← h]
theorem aDE (w : World) (e : TypeId) (s : ByteArray) : ∃ fz,(Lib.bytesWorld w e s).heap[w.heap.size]? = some (.cells (Lib.bytesCells w e s) e fz) ∧ yG (Lib.bytesCells w e s) fz := by
 refine ⟨((Lib.bytesCells w e s).size,(Lib.bytesCells w e s).size + 1),?_,fun j hj h => by simp at h; omega⟩
 have e0 : (Lib.bytesWorld w e s).heap[w.heap.size]? = ((w.heap.push (.cells (Lib.bytesCells w e s) e)).modify w.heap.size fun
   | .cells c elem (lo,hi) => .cells c elem (if lo == hi then ((Lib.bytesCells w e s).size,(Lib.bytesCells w e s).size + 1) else (min lo (Lib.bytesCells w e s).size,max hi ((Lib.bytesCells w e s).size + 1)))
   | o => o)[w.heap.size]? := rfl
 rw [e0,Array.getElem?_modify,if_pos rfl]
 simp
theorem aON {esz : Nat} {x : A} {v : Value} {r : Nat × List D} (he : dO h esz x = some r) (hx : AR h ρ w I x v) (hn : ∀ s,x ≠ .d (.str s)) : ∃ a len cap,v = .slice a len cap := by
 unfold dO at he
 split at he
 ·simp only [AR,DR] at hx; obtain ⟨a,rfl⟩ := hx; exact ⟨_,_,_,rfl⟩
 ·simp only [AR,DR] at hx; obtain ⟨a,cap,rfl,_⟩ := hx; exact ⟨_,_,_,rfl⟩
 ·exact absurd rfl (hn _)
 ·simp only [AR] at hx; obtain ⟨a,cap,rfl,_⟩ := hx; exact ⟨_,_,_,rfl⟩
 ·cases he
theorem aKf {src dst : TypeId} {a x : A} {v : Value} {h' : H} (he : f9 P h src dst a = some (x,h')) (r : Rel G h ρ w I) (ha : AR h ρ w I a v) :
  ∃ u ρ' w',(convert src dst v).run P w = .ok u w' ∧ Step G h ρ w I h' ρ' w' I ∧ AR h' ρ' w' I x u := by
 unfold f9 at he
 split at he
 ·rename_i k1 k2 k n hs hd
  cases he
  simp only [AR,DR] at ha; subst ha
  exact ⟨.int k2 (k2.wrap n),ρ,w,by simp [convert,aT hs,aT hd,Conv.intToInt],.refl r,by simp only [AR,DR]⟩
 ·rename_i k1 k n hs hd
  cases he
  simp only [AR,DR] at ha; subst ha
  exact ⟨.string (Utf8.encode n),ρ,w,by simp [convert,aT hs,aT hd,Conv.intToString],.refl r,by simp only [AR,DR]⟩
 ·rename_i s hs hd
  cases he
  simp only [AR,DR] at ha; subst ha
  exact ⟨_,ρ,w,by simp [convert,aT hs,aT hd]; rfl,.refl r,by simp only [AR,DR]⟩
 ·rename_i e s hs hd
  split at he
  ·rename_i hm
   have hel := hm
   simp only [if_true] at he
   cases he
   simp only [AR,DR] at ha; subst ha
   have hrun := Lib.run_convert_string_bytes w src dst e ⟨s.toArray⟩ hs hd hel
   obtain ⟨fz,hnew,hfz⟩ := aDE w e ⟨s.toArray⟩
   have hsz : (⟨s.toArray⟩ : ByteArray).size = s.length := by simp [ByteArray.size]
   have g : Grew w (Lib.bytesWorld w e ⟨s.toArray⟩) := by
    refine ⟨?_,?_,?_,?_,fun b hb => Lib.bytesWorld_at_old w e _ b hb,?_⟩
    rotate_right
    ·simp [Lib.bytesWorld,World.freeze,World.alloc,World.drew,-World.alloc_eq,-World.drew_eq]
    ·simp [Lib.bytesWorld,World.freeze,World.alloc,World.drew,-World.alloc_eq,-World.drew_eq]
    ·simp [Lib.bytesWorld,World.freeze,World.alloc,World.drew,-World.alloc_eq,-World.drew_eq]
    ·simp [Lib.bytesWorld,World.freeze,World.alloc,World.drew,-World.alloc_eq,-World.drew_eq]
    ·simp [Lib.bytesWorld,World.freeze,World.alloc,World.drew,-World.alloc_eq,-World.drew_eq]
   have hC : (Lib.bytesCells w e ⟨s.toArray⟩).toList = (s.map fun b => Value.int .u8 b.toNat) ++ (Array.replicate (grownCap w (⟨s.toArray⟩ : ByteArray).size 0 e - (⟨s.toArray⟩ : ByteArray).size) (Value.int .u8 0)).toList := by
    simp [Lib.bytesCells]
   have s1 := j4 r g (.arr (s.map fun b => .int .u8 b.toNat) 1 0) (some w.heap.size) (fun b hb => by cases hb; exact Nat.le_refl _) (fun ext => by
    simp only [OR,bP]
    refine ⟨by omega,fun hI => by have := r.imm _ hI; omega,_,e,fz,hnew,⟨hfz,fun h => absurd rfl h⟩,JS hnew hC ?_ ?_⟩
    ·rw [nB]
     refine ⟨by simp,fun k d hk => ?_⟩
     rw [List.getElem?_map] at hk ⊢
     cases hk' : s[k]? with
     | none => rw [hk'] at hk; cases hk
     | some b => rw [hk'] at hk; simp at hk; subst hk; exact ⟨_,rfl,by simp only [DR]⟩
    ·intro u hu
     obtain ⟨b,_,rfl⟩ := List.mem_map.1 hu
     rfl)
   have hcap : s.length ≤ grownCap w (⟨s.toArray⟩ : ByteArray).size 0 e := by rw [hsz]; simp [grownCap,Question.cut]
   refine ⟨_,_,_,hrun,s1,?_⟩
   simp only [AR]
   rw [hsz]
   refine ⟨_,_,rfl,?_⟩
   have e1 : (h ++ [O.arr (s.map fun b => D.int .u8 b.toNat) 1 0])[h.length]? = some (.arr (s.map fun b => D.int .u8 b.toNat) 1 0) := by simp
   simp only [slOK,e1,bP]
   refine ⟨Nat.le_refl _,fun _ => ⟨by rw [← hsz] at hcap ⊢; rw [hsz] at hcap; rw [hsz]; exact hcap,.inr ⟨trivial,by simp,_,e,fz,hnew,?_⟩⟩⟩
   rw [← Array.length_toList,hC]
   simp
   rw [hsz] at hcap ⊢
   omega
  ·simp at he
 ·cases he
 ·rename_i e hs hd hnos
  split at he
  ·rename_i hm
   have hel := hm
   simp only [if_true] at he
   split at he
   ·rename_i n cs hsc
    simp only [Option.map_eq_some_iff] at he
    obtain ⟨bs,hbs,he⟩ := he
    cases he
    obtain ⟨hlen,hcl,vs,hdv,hone,hfirst⟩ := HX (P := P) hsc r ha
    obtain ⟨ns,rfl,rfl⟩ := aEp hbs hdv
    have hl := hfirst w rfl
    have hln := hlen w
    obtain ⟨a,len,cap,rfl⟩ := aON hsc ha hnos
    simp only [Builtin.lenOf,Sem.run_pure,Result.ok.injEq] at hln
    cases a with
    | none =>
     simp only [Builtin.firstCells,Sem.run_pure,Result.ok.injEq] at hl
     have : ns = [] := by have := hl.1; cases ns with | nil => rfl | cons => simp at this
     subst this
     exact ⟨.string .empty,ρ,w,by simp [convert,aT hs,aT hd,aT hel,Conv.bytesToString],.refl r,by simp only [AR,DR]; rfl⟩
    | some a =>
     simp only [Builtin.firstCells,Nat.mul_one] at hl
     rw [← hln.1] at hl
     have := run_bytesToString (P := P) w a len cap ns hl
     refine ⟨_,ρ,w,by simp [convert,aT hs,aT hd,aT hel,this]; rfl,.refl r,?_⟩
     simp only [AR,DR]
     congr 1
     refine aIM ?_
     rw [aCS]
     simp
   ·cases he
  ·simp at he
 ·cases he
end
end Ev
end Go.Proofs.Ytppdfjdfjfoddaa
namespace Go.Proofs.Ytppdfjdfjfoddaa
namespace Ev
variable {G : Gnd}
def nO (G : Gnd) (P : Program) (call : aY) : Prop := ∀ (f : FuncId) (args : List A) (h : H) (x : A) (h' : H),call f args h = some (x,h') →
 (∃ fn, P.funcs[f]? = some fn ∧ fn.body.isNone = false ∧ (fn.name == "runtime.NumGoroutine") = false) ∧
 ∀ (ρ : Rho) (w : World) (I : Nat → Prop) (vs : List Value),Rel G h ρ w I → ARv h ρ w I args vs →
  Calls P f vs.toArray w fun e w' => ∃ v ρ' I',e = .returned v ∧ Step G h ρ w I h' ρ' w' I' ∧ AR h' ρ' w' I' x v
structure EnvOK (E : Env) : Prop where
 eqs : aKE E.P E.eqs
 mixed : E.P.follows .mixedOrders = true
section
variable {E : Env} {call : aY} {h : H} {ρ : Rho} {w : World} {I : Nat → Prop}
theorem aPa {x : A} {v : Value} (hp : lV x = true) {h' : H} {ρ' : Rho} {w' : World} {I' : Nat → Prop} {h2 : H} {ρ2 : Rho} {w2 : World} {I2 : Nat → Prop} (ha : AR h' ρ' w' I' x v) : AR h2 ρ2 w2 I2 x v := by
 have scal : ∀ (x : D) (v : Value),(match x with | .int _ _ | .bool _ | .str _ => true | _ => false) = true → DR w' I' x v → DR w2 I2 x v := by
  intro x v hx hd
  cases x <;> first | (simp at hx; done) | (simp only [DR] at hd ⊢; exact hd)
 cases x with
 | d y => simp only [AR] at ha ⊢; exact scal y v (by cases y <;> first | rfl | simp [lV] at hp) ha
 | tup vs =>
  simp only [AR] at ha ⊢
  obtain ⟨C,rfl,hc⟩ := ha
  refine ⟨C,rfl,?_⟩
  simp only [lV] at hp
  rw [iB] at hc ⊢
  refine ⟨hc.1,fun k a hk => ?_⟩
  obtain ⟨u,hu,hau⟩ := hc.2 k a hk
  refine ⟨u,hu,?_⟩
  have := List.all_eq_true.1 hp a (List.mem_of_getElem? hk)
  cases a with
  | d y => simp only [AR] at hau ⊢; exact scal y u (by cases y <;> first | rfl | simp at this) hau
  | _ => simp at this
 | _ => simp [lV] at hp
theorem zB {ρ0 : Rho} (hi : ∀ b,I b → b < w.heap.size) (hg : FN G w I) : Rel G [] ρ0 w I :=
 ⟨fun id o ho => by simp at ho,fun id id' b o o' _ _ ho => by simp at ho,hi,hg⟩
theorem aIU {ρ0 : Rho} {b : Nat} : ¬ vK [] ρ0 b := fun ⟨_,_,_,ho,_⟩ => by simp at ho
theorem P4 {ρ0 : Rho} {I0 : Nat → Prop} {h' : H} {ρ' : Rho} {w' : World} {I' : Nat → Prop} (s : Step G [] ρ0 w I0 h' ρ' w' I') : Grew w w' :=
 ⟨s.keep.os,s.keep.tape,s.keep.output,s.keep.size,fun b hb => s.keep.same b hb aIU,s.keep.drawn⟩
theorem aOg {ρ0 : Rho} {x : A} {v : Value} (ha : AR [] ρ0 w I x v) (h' : H) (ρ' : Rho) : AR h' ρ' w I x v :=
 m5 ⟨oT w I,fun _ _ _ _ _ _ hs => by simp [slOK] at hs,fun _ _ _ hs => by simp [ptOK] at hs,fun _ _ hs => by simp [mpOK] at hs⟩ x v ha
theorem aHr {P : Program} {f : FuncId} {args : Array Value} {fn : Func} (h1 : P.funcs[f]? = some fn) (h2 : fn.body.isNone = false) (h3 : (fn.name == "runtime.NumGoroutine") = false) : (callFunc f args).run P w = .ok (.enter f args) w := by
 unfold callFunc
 simp only [Sem.run_bind,run_program,Result.andThen_ok,h1,h2,h3,Bool.false_eq_true,if_false]
 rfl
theorem aHO {w : World} {I I' : Nat → Prop} {d : D} {v : Value} (hd : AS d = true) (h : DR w I d v) : DR w I' d v := by
 cases d with
 | ivs n cs =>
  cases cs with
  | nil =>
   simp only [DR] at h ⊢
   obtain ⟨a,cap,h1,h2,_⟩ := h
   exact ⟨a,cap,h1,h2,.inl trivial⟩
  | cons c cs => simp [AS] at hd
 | iptr cs => simp [AS] at hd
 | fn f caps => simp [AS] at hd
 | ifc t x => simp [AS] at hd
 | _ => simpa only [DR] using h
theorem aMM {w : World} {I I' : Nat → Prop} {cs : List D} {b o : Nat} (hd : cs.all AS = true) (h : DRs w I cs b o) : DRs w I' cs b o := by
 rw [lG] at h ⊢
 intro k d hk
 obtain ⟨v,h1,h2,h3⟩ := h k d hk
 exact ⟨v,h1,aHO (List.all_eq_true.1 hd d (List.mem_of_getElem? hk)) h2,h3⟩
section rebase
variable {h : H} {ρ : Rho} {w : World} {I I' : Nat → Prop}
theorem aOI (hn : h.all nI = true) {id gen off len : Nat} {a : Option Addr} {cap : Nat} (hs : slOK h ρ w I id gen off len a cap) : slOK h ρ w I' id gen off len a cap := by
 unfold slOK at hs ⊢
 cases hid : h[id]? with
 | none => rw [hid] at hs; exact hs
 | some o =>
  rw [hid] at hs
  cases o with
  | ice cs e g => have := List.all_eq_true.1 hn _ (List.mem_of_getElem? hid); simp [nI] at this
  | _ => exact hs
theorem aOx (hn : h.all nI = true) {id gen b : Nat} (hs : ptOK h ρ w I id gen b) : ptOK h ρ w I' id gen b := by
 unfold ptOK at hs ⊢
 cases hid : h[id]? with
 | none => rw [hid] at hs; exact hs
 | some o =>
  rw [hid] at hs
  cases o with
  | ice cs e g => have := List.all_eq_true.1 hn _ (List.mem_of_getElem? hid); simp [nI] at this
  | _ => exact hs
mutual
theorem QK (hn : h.all nI = true) : ∀ (a : A) (v : Value),pI a = true → AR h ρ w I a v → AR h ρ w I' a v
 | .d x,v,hc,hh => by simp only [pI] at hc; simp only [AR] at hh ⊢; exact aHO hc hh
 | .sl id gen off len,v,_,hh => by
  simp only [AR] at hh ⊢
  obtain ⟨a,cap,hv,ho⟩ := hh
  exact ⟨a,cap,hv,aOI hn ho⟩
 | .ptr id gen off,v,_,hh => by
  simp only [AR] at hh ⊢
  obtain ⟨b,hv,ho⟩ := hh
  exact ⟨b,hv,aOx hn ho⟩
 | .mp id,v,_,hh => by
  simp only [AR] at hh ⊢
  exact hh
 | .clo f caps,v,hc,hh => by
  simp only [pI] at hc
  simp only [AR] at hh ⊢
  obtain ⟨cv,hv,ho⟩ := hh
  exact ⟨cv,hv,LG hn caps _ hc ho⟩
 | .agg cs,v,hc,hh => by
  simp only [pI] at hc
  simp only [AR] at hh ⊢
  obtain ⟨cv,hv,ho⟩ := hh
  exact ⟨cv,hv,LG hn cs _ hc ho⟩
 | .tup cs,v,hc,hh => by
  simp only [pI] at hc
  simp only [AR] at hh ⊢
  obtain ⟨cv,hv,ho⟩ := hh
  exact ⟨cv,hv,LG hn cs _ hc ho⟩
 | .junk,v,_,_ => by simp only [AR]
theorem LG (hn : h.all nI = true) : ∀ (as : List A) (vs : List Value),oC as = true → ARv h ρ w I as vs → ARv h ρ w I' as vs
 | [],vs,_,hh => by simpa only [ARv] using hh
 | a :: as,vs,hc,hh => by
  simp only [oC,Bool.and_eq_true] at hc
  simp only [ARv] at hh ⊢
  obtain ⟨v,rest,hv,ha,hr⟩ := hh
  exact ⟨v,rest,hv,QK hn a v hc.1 ha,LG hn as rest hc.2 hr⟩
end
theorem NB : ∀ {cs : List A} {k : Nat} {c : A},oC cs = true → cs[k]? = some c → pI c = true
 | [],k,c,_,hk => by simp at hk
 | a :: as,0,c,hc,hk => by
  simp only [oC,Bool.and_eq_true] at hc
  simp at hk; subst hk; exact hc.1
 | a :: as,k + 1,c,hc,hk => by
  simp only [oC,Bool.and_eq_true] at hc
  exact NB hc.2 (by simpa using hk)
theorem aMG (hn : h.all nI = true) (hI : ∀ b,I' b → I b) {id : Nat} {o : O} (hid : h[id]? = some o) (ho : OR h ρ w I id o) : OR h ρ w I' id o := by
 have hc := List.all_eq_true.1 hn _ (List.mem_of_getElem? hid)
 cases o with
 | arr cs e g =>
  simp only [nI] at hc
  simp only [OR] at ho ⊢
  cases hρ : ρ id with
  | none => rw [hρ] at ho; exact ho
  | some b =>
   rw [hρ] at ho
   obtain ⟨h1,h2,C,E,fz,h3,h4,h5⟩ := ho
   exact ⟨h1,fun hb => h2 (hI b hb),C,E,fz,h3,h4,aMM hc h5⟩
 | box cs =>
  simp only [nI] at hc
  simp only [OR] at ho ⊢
  obtain ⟨b,hρ,h2,C,E,fz,h3,h4,h5⟩ := ho
  refine ⟨b,hρ,fun hb => h2 (hI b hb),C,E,fz,h3,h4,fun m c hm => ?_⟩
  obtain ⟨v,hv,ha,hk⟩ := h5 m c hm
  exact ⟨v,hv,QK hn c v (NB hc hm) ha,hk⟩
 | vec cs e g =>
  simp only [nI] at hc
  simp only [OR] at ho ⊢
  cases hρ : ρ id with
  | none => rw [hρ] at ho; exact ho
  | some b =>
   rw [hρ] at ho
   obtain ⟨h1,h2,C,E,fz,h3,h4,h5⟩ := ho
   refine ⟨h1,fun hb => h2 (hI b hb),C,E,fz,h3,h4,fun m c hm => ?_⟩
   obtain ⟨v,hv,ha,hk⟩ := h5 m c hm
   exact ⟨v,hv,QK hn c v (NB hc hm) ha,hk⟩
 | mp es =>
  simp only [OR] at ho ⊢
  obtain ⟨b,hρ,h2,M,c,h3,h4⟩ := ho
  exact ⟨b,hρ,fun hb => h2 (hI b hb),M,c,h3,h4⟩
 | ice cs e g => simp only [OR]
 | void => simp only [OR]
end rebase
theorem aIc {w w' : World} {I I1 I2 : Nat → Prop} {ρ0 ρ2 : Rho} {h2 : H} (s : Step G [] ρ0 w I1 h2 ρ2 w' I2) (hI : ∀ b,I b → I1 b) (hlt : ∀ b,I b → b < w.heap.size) (hg : FN G w I) (hn : h2.all nI = true) : Step G [] ρ0 w I h2 ρ2 w' I := by
 have up : ∀ b,I b → I2 b := fun b hb => (s.ext.imm b (hI b hb)).1
 refine ⟨⟨fun id o hid => aMG hn up hid (s.rel.obj id o hid),s.rel.inj,fun b hb => Nat.lt_of_lt_of_le (hlt b hb) s.keep.size,hg.mono fun b hb => ⟨hb,(s.ext.imm b (hI b hb)).2⟩⟩,⟨fun b hb => ⟨hb,(s.ext.imm b (hI b hb)).2⟩,fun _ _ _ _ _ _ hs => by simp [slOK] at hs,fun _ _ _ hs => by simp [ptOK] at hs,fun _ _ hs => by simp [mpOK] at hs⟩,⟨s.keep.os,s.keep.tape,s.keep.output,s.keep.size,s.keep.same,fun b hb => .inl hb,s.keep.drawn⟩,s.own,s.len⟩
theorem aOh (hc : nO G E.P call) {f : FuncId} {args : List A} {x : A} {h' : H} (he : dJ call E.hint h f args = some (x,h')) :
  (∃ fn, E.P.funcs[f]? = some fn ∧ fn.body.isNone = false ∧ (fn.name == "runtime.NumGoroutine") = false) ∧
  ∀ (ρ : Rho) (w : World) (I : Nat → Prop) (vs : List Value),Rel G h ρ w I → ARv h ρ w I args vs →
   Calls E.P f vs.toArray w fun e w' => ∃ v ρ' I',e = .returned v ∧ Step G h ρ w I h' ρ' w' I' ∧ AR h' ρ' w' I' x v := by
 unfold dJ at he
 split at he
 ·exact hc f args h x h' he
 ·split at he
  ·rename_i as h1 hfr
   split at he
   ·rename_i r0 hcall
    split at he
    ·rename_i hp
     cases he
     obtain ⟨hf,hrun⟩ := hc f as [] x [] hcall
     refine ⟨hf,fun ρ w I vs r ha => ?_⟩
     obtain ⟨I1,s1,d1⟩ := JQ args h as h1 hfr ρ w I vs r ha
     refine (hrun (fun _ => none) w I1 vs (zB s1.rel.imm s1.rel.ground) (d1.ar _ _)).mono ?_
     rintro e w' ⟨v,ρ',I',rfl,s2,hx⟩
     exact ⟨v,ρ,I,rfl,VY r (P4 s2),aPa hp hx⟩
    ·cases he
   ·cases he
  ·cases he
 ·split at he
  ·rename_i as h1 hfr
   split at he
   ·rename_i r0 h2 hcall
    split at he
    ·rename_i hp
     cases he
     simp only [Bool.and_eq_true] at hp
     obtain ⟨hf,hrun⟩ := hc f as [] r0 h2 hcall
     refine ⟨hf,fun ρ w I vs r ha => ?_⟩
     obtain ⟨I1,s1,d1⟩ := JQ args h as h1 hfr ρ w I vs r ha
     refine (hrun (sub [] ρ) w I1 vs (zB s1.rel.imm s1.rel.ground) (d1.ar _ _)).mono ?_
     rintro e w' ⟨v,ρ',I',rfl,s2,hx⟩
     have s2' := aIc (I := I) s2 (fun b hb => (s1.ext.imm b hb).1) r.imm r.ground hp.2
     obtain ⟨s3,hren⟩ := HL (ord := []) r (by simp) (by simp) (Nat.zero_le _) (show Step G (pack h []) (sub [] ρ) w I h2 ρ' w' I from s2')
     simp only [bK] at s3 hren
     exact ⟨v,_,I,rfl,s3,FF (oT _ _) hren r0 v (QK hp.2 r0 v hp.1 hx)⟩
    ·cases he
   ·cases he
  ·cases he
 ·split at he
  ·rename_i as h1 hfr
   split at he
   ·rename_i r0 hcall
    cases he
    obtain ⟨hf,hrun⟩ := hc f as [] x [] hcall
    refine ⟨hf,fun ρ w I vs r ha => ?_⟩
    obtain ⟨I1,s1,d1⟩ := JQ args h as h' hfr ρ w I vs r ha
    refine (hrun (sub [] ρ) w I1 vs (zB s1.rel.imm s1.rel.ground) (d1.ar _ _)).mono ?_
    rintro e w' ⟨v,ρ',I',rfl,s2,hx⟩
    obtain ⟨s3,_⟩ := HL (ord := []) s1.rel (by simp) (by simp) (Nat.zero_le _) (show Step G (pack h' []) (sub [] ρ) w I1 [] ρ' w' I' from s2)
    have e1 : bK (back [] (List.length h') (List.length ([] : H))) h' [] [] = h' := by simp [bK]
    rw [e1] at s3
    exact ⟨v,_,I',rfl,s1.trans s3,aOg hx _ _⟩
   ·rename_i r0 h2 _ hcall
    cases he
    obtain ⟨hf,hrun⟩ := hc f as [] r0 h2 hcall
    refine ⟨hf,fun ρ w I vs r ha => ?_⟩
    obtain ⟨I1,s1,d1⟩ := JQ args h as h1 hfr ρ w I vs r ha
    refine (hrun (sub [] ρ) w I1 vs (zB s1.rel.imm s1.rel.ground) (d1.ar _ _)).mono ?_
    rintro e w' ⟨v,ρ',I',rfl,s2,hx⟩
    obtain ⟨s3,hren⟩ := HL (ord := []) s1.rel (by simp) (by simp) (Nat.zero_le _) (show Step G (pack h1 []) (sub [] ρ) w I1 h2 ρ' w' I' from s2)
    simp only [bK] at s3 hren
    exact ⟨v,_,I',rfl,s1.trans s3,FF (oT _ _) hren r0 v hx⟩
   ·cases he
  ·cases he
theorem aKG (hc : nO G E.P call) {c : A} {args : List A} {x : A} {h' : H} (he : i7 call E.hint h c args = some (x,h')) {cv : Value} {vs : List Value} (r : Rel G h ρ w I) (hcv : AR h ρ w I c cv) (ha : ARv h ρ w I args vs) :
  ∃ f as,(do let d ← Deferred.ofValue cv vs.toArray; invoke d.target d.args : Sem Next).run E.P w = .ok (.enter f as) w ∧
   Calls E.P f as w fun e w' => ∃ v ρ' I',e = .returned v ∧ Step G h ρ w I h' ρ' w' I' ∧ AR h' ρ' w' I' x v := by
 have key : ∀ (f : FuncId) (caps : List A) (cap : Array Value),dJ call E.hint h f (args ++ caps) = some (x,h') → ARv h ρ w I caps cap.toList → cv = .func (.func f) #[] cap →
   ∃ f as,(do let d ← Deferred.ofValue cv vs.toArray; invoke d.target d.args : Sem Next).run E.P w = .ok (.enter f as) w ∧
    Calls E.P f as w fun e w' => ∃ v ρ' I',e = .returned v ∧ Step G h ρ w I h' ρ' w' I' ∧ AR h' ρ' w' I' x v := by
  intro f caps cap he hcap hcv
  subst hcv
  obtain ⟨⟨fn,h1,h2,h3⟩,hrun⟩ := aOh hc he
  refine ⟨f,(vs ++ cap.toList).toArray,?_,hrun ρ w I _ r (vC ha hcap)⟩
  have := aHr (w := w) (args := (vs ++ cap.toList).toArray) h1 h2 h3
  simp only [Deferred.ofValue,Sem.run_bind,Sem.run_pure,Result.andThen_ok,invoke]
  have e : #[] ++ vs.toArray ++ cap = (vs ++ cap.toList).toArray := by simp
  rw [e]; exact this
 unfold i7 at he
 split at he
 ·simp only [AR] at hcv
  obtain ⟨cap,rfl,hcap⟩ := hcv
  exact key _ _ cap he hcap rfl
 ·simp only [AR,DR] at hcv
  obtain ⟨cap,rfl,hcap⟩ := hcv
  exact key _ _ cap he ((uB _ _).2 hcap) rfl
 ·cases he
def KL (G : Gnd) (E : Env) (h : H) (ρ : Rho) (w : World) (I : Nat → Prop) (o : Oper) (act : Act) (x : A) (h' : H) : Prop :=
 ∀ (K : Act → World → Prop) (Q : Exit → Act → World → Prop),(∀ v ρ' w' I',Step G h ρ w I h' ρ' w' I' → AR h' ρ' w' I' x v → K (act.put o.dst v) w') → o.wp E.P act w K Q
theorem bC {o : Oper} {act : Act} {x : A} {h' : H} {v : Value} {ρ' : Rho} {w' : World} {I' : Nat → Prop} (hrun : (execOp act.eval o).run E.P w = .ok (.value v) w') (s : Step G h ρ w I h' ρ' w' I') (hx : AR h' ρ' w' I' x v) : KL G E h ρ w I o act x h' := by
 intro K Q hK
 unfold Oper.wp
 rw [hrun,Oper.upon_value]
 exact hK v ρ' w' I' s hx
theorem aIB {o : Oper} {act : Act} {x : A} {h' : H} {f : FuncId} {as : Array Value} (hrun : (execOp act.eval o).run E.P w = .ok (.enter f as) w)
  (hc : Calls E.P f as w fun e w' => ∃ v ρ' I',e = .returned v ∧ Step G h ρ w I h' ρ' w' I' ∧ AR h' ρ' w' I' x v) : KL G E h ρ w I o act x h' := by
 intro K Q hK
 unfold Oper.wp
 rw [hrun,Oper.upon_enter]
 refine hc.mono ?_
 rintro e w' ⟨v,ρ',I',rfl,s,hx⟩
 exact hK v ρ' w' I' s hx
theorem nE {a : A} {as : List A} {vs : List Value} (ha : ARv h ρ w I (a :: as) vs) : ∃ v rest,vs = v :: rest ∧ AR h ρ w I a v ∧ ARv h ρ w I as rest := by simpa only [ARv] using ha
theorem sK {a : A} {v : Value} (ha : ARv h ρ w I [a] [v]) : AR h ρ w I a v := by
 obtain ⟨v',rest,h1,h2,_⟩ := nE ha
 cases h1; exact h2
theorem BI {a b : A} {u v : Value} (ha : ARv h ρ w I [a,b] [u,v]) : AR h ρ w I a u ∧ AR h ρ w I b v := by
 obtain ⟨v',rest,h1,h2,h3⟩ := nE ha
 cases h1; exact ⟨h2,sK h3⟩
theorem aAy {a b c : A} {u v x : Value} (ha : ARv h ρ w I [a,b,c] [u,v,x]) : AR h ρ w I a u ∧ AR h ρ w I b v ∧ AR h ρ w I c x := by
 obtain ⟨v',rest,h1,h2,h3⟩ := nE ha
 cases h1; exact ⟨h2,BI h3⟩
theorem wM {k : IntKind} {n : Int} {v : Value} (ha : AR h ρ w I (.d (.int k n)) v) : v = .int k n := by simpa only [AR,DR] using ha
theorem j0 {vs : List A} {k : A → Option (A × H)} {x : A × H} (he : one vs k = some x) : ∃ a,vs = [a] ∧ k a = some x := by
 unfold one at he
 split at he
 ·exact ⟨_,rfl,he⟩
 ·cases he
theorem pR {vs : List A} {k : A → A → Option (A × H)} {x : A × H} (he : two vs k = some x) : ∃ a b,vs = [a,b] ∧ k a b = some x := by
 unfold two at he
 split at he
 ·exact ⟨_,_,rfl,he⟩
 ·cases he
theorem aJ0 {vs : List A} {k : A → A → A → Option (A × H)} {x : A × H} (he : HG vs k = some x) : ∃ a b c,vs = [a,b,c] ∧ k a b c = some x := by
 unfold HG at he
 split at he
 ·exact ⟨_,_,_,rfl,he⟩
 ·cases he
theorem m2 {a : A} {k : Int → Option (A × H)} {x : A × H} (he : lC a k = some x) : ∃ kind i,a = .d (.int kind i) ∧ k i = some x := by
 unfold lC at he
 split at he
 ·exact ⟨_,_,rfl,he⟩
 ·cases he
theorem aJR {d : D} (h : D5 d = true) : DR w I d (iJ d) := by
 cases d <;> simp_all [D5,iJ,DR]
theorem WR {d : D} {v : Value} (h : D5 d = true) (hd : DR w I d v) : v = iJ d := by
 cases d <;> simp_all [D5,iJ,DR]
theorem aEq {P : Program} {t et : TypeId} {kt : TypeDesc} (h : mapT P t = some (kt,et)) : ∃ k0,P.underlying t = some (.map k0 et) ∧ P.underlying k0 = some kt := by
 unfold mapT at h
 split at h
 ·rename_i k0 et' hu
  split at h
  ·rename_i k hk; cases h; exact ⟨k0,hu,hk⟩
  ·rename_i hk; cases h; exact ⟨k0,hu,hk⟩
  ·cases h
 ·cases h
theorem aHE {kt : TypeDesc} {k : D} (h : aF2 kt k = true) : MapKept.IsKey kt (iJ k) ∧ D5 k = true := by
 cases kt <;> cases k <;> simp_all [aF2,MapKept.IsKey,iJ,D5]
theorem aKN (a b : List UInt8) : ((⟨a.toArray⟩ : ByteArray) == ⟨b.toArray⟩) = (a == b) := by
 rw [Bool.eq_iff_iff,MapKept.bytes_beq]
 simp
theorem ZP {kt : TypeDesc} {a b : D} {r : Bool} (h : aJX kt a b = some r) : Instr.sameNow kt (iJ a) (iJ b) = some r ∧ (r = true → iJ b = iJ a) := by
 unfold aJX at h
 split at h
 ·rename_i k x k' y
  split at h
  ·rename_i hk
   subst hk
   simp only [Option.some.injEq] at h
   subst h
   refine ⟨by simp [Instr.sameNow,iJ],fun hr => ?_⟩
   have : x = y := by simpa using hr
   rw [this]
  ·cases h
 ·rename_i x y
  simp only [Option.some.injEq] at h
  subst h
  refine ⟨by simp [Instr.sameNow,iJ,aKN],fun hr => ?_⟩
  have : x = y := by simpa using hr
  rw [this]
 ·cases h
theorem QN {kt : TypeDesc} {k : D} : ∀ (es : List (D × D)) (l : List MapEntry) (i : Nat) (r : Option Nat),l.map (fun e => (e.key,e.val)) = es.map (fun e => (iJ e.1,iJ e.2)) → W9 kt k es i = some r →
  (r = none ∧ Instr.findNow kt (iJ k) l i = some none) ∨ ∃ j e x,r = some (i + j) ∧ l[j]? = some e ∧ es[j]? = some x ∧ Instr.findNow kt (iJ k) l i = some (some (i + j,e.val)) ∧ e.key = iJ k
 | [],l,i,r,hm,h => by
  have : l = [] := by simpa using hm
  subst this
  simp only [W9,Option.some.injEq] at h
  subst h
  exact .inl ⟨rfl,rfl⟩
 | e :: es,[],i,r,hm,h => by simp at hm
 | e :: es,x :: l,i,r,hm,h => by
  simp only [List.map_cons,List.cons.injEq,Prod.mk.injEq] at hm
  obtain ⟨⟨hk,hv⟩,hm⟩ := hm
  unfold W9 at h
  split at h
  ·rename_i he
   cases h
   obtain ⟨h1,h2⟩ := ZP he
   exact .inr ⟨0,x,e,rfl,rfl,rfl,by simp [Instr.findNow,hk,h1],by rw [hk]; exact h2 rfl⟩
  ·rename_i he
   obtain ⟨h1,_⟩ := ZP he
   rcases QN es l (i + 1) r hm h with ⟨a,b⟩ | ⟨j,e',x',a,b,c,d,f⟩
   ·exact .inl ⟨a,by simp [Instr.findNow,hk,h1,b]⟩
   ·exact .inr ⟨j + 1,e',x',by rw [a]; congr 1; omega,by simpa using b,by simpa using c,by simp [Instr.findNow,hk,h1,d]; omega,f⟩
  ·cases h
theorem aJW {id : Nat} {v : Value} {es : List (D × D)} (r : Rel G h ρ w I) (ha : AR h ρ w I (.mp id) v) (hid : h[id]? = some (.mp es)) : ∃ b M c,v = .map (some b) ∧ ρ id = some b ∧ ¬ I b ∧ w.heap[b]? = some (.map M c) ∧ aDz es M := by
 simp only [AR] at ha
 obtain ⟨b,hv,hp⟩ := ha
 simp only [mpOK,hid] at hp
 have hO := r.obj id _ hid
 simp only [OR] at hO
 obtain ⟨b',hb',hI,M,c,h1,h2⟩ := hO
 rw [hp] at hb'; cases hb'
 exact ⟨b,M,c,hv,hp,hI,h1,h2⟩
theorem aKX {P : Program} {t ty : TypeId} {ts : Array TypeId} {id : Nat} {x : A} {v : Value} {h' : H} (ht : ts[0]? = some t) (he : DE P h t id = some (x,h')) (r : Rel G h ρ w I) (ha : AR h ρ w I (.mp id) v) :
  h' = h ∧ ∃ u,(Builtin.len_ ts ty #[v]).run P w = .ok u w ∧ AR h ρ w I x u := by
 unfold DE at he
 split at he
 ·rename_i kt et es hu hid
  cases he
  obtain ⟨b,M,c,rfl,_,_,hb,hE⟩ := aJW r ha hid
  have hl : M.size = es.length := by
   have := congrArg List.length hE.1
   simpa using this
  exact ⟨rfl,.int .i64 es.length,by simp [Builtin.len_,ht,aT hu,MapKept.run_getObj_map hb,goInt,hl],by simp only [AR,DR]⟩
 ·cases he
theorem aLR {P : Program} {t : TypeId} {ok : Bool} {m k x : A} {vm vk : Value} {h' : H} (he : OM P h t ok m k = some (x,h')) (r : Rel G h ρ w I) (hm : AR h ρ w I m vm) (hk : AR h ρ w I k vk) :
  h' = h ∧ ∃ u,(Instr.lookup t vm vk ok).run P w = .ok u w ∧ AR h ρ w I x u := by
 unfold OM at he
 split at he
 ·rename_i kt et id k hmt
  split at he
  ·rename_i es z hid hz
   split at he
   ·rename_i hc
    simp only [Bool.and_eq_true] at hc
    split at he
    ·rename_i rr hkat
     cases he
     refine ⟨rfl,?_⟩
     obtain ⟨k0,hu,hku⟩ := aEq hmt
     obtain ⟨hik,hfk⟩ := aHE hc.1
     obtain ⟨b,M,c,rfl,_,_,hb,hE⟩ := aJW r hm hid
     simp only [AR] at hk
     have hvk := WR hfk hk
     subst hvk
     obtain ⟨iz,zv,_,_,hzrun,hzr⟩ := N2 hz
     have hzd := hzr h ρ w I
     simp only [AR] at hzd
     have hzv := WR hc.2 hzd
     subst hzv
     rcases QN es M.toList 0 rr hE.1 hkat with ⟨rfl,hf⟩ | ⟨j,e,y,rfl,hje,hjy,hf,hke⟩
     ·refine ⟨if ok then .tuple #[iJ z,.bool false] else iJ z,?_,?_⟩
      ·simp [Instr.lookup,aT hu,MapKept.run_getObj_map hb,MapKept.run_checkKey hku hik,MapKept.run_findKey hku hf,hzrun,Result.andThen]
      ·cases ok
       ·simp only [DU,VZ,AR]; exact hzd
       ·simp only [DU,VZ,AR,if_true,Option.isSome_none]
        exact ⟨_,rfl,by simp only [ARv,AR]; exact ⟨_,_,rfl,hzd,_,_,rfl,by simp only [DR],rfl⟩⟩
     ·have hev : e.val = iJ y.2 := by
       have h1 := congrArg (fun l => l[j]?) hE.1
       simp only [List.getElem?_map,hje,hjy,Option.map_some,Option.some.injEq,Prod.mk.injEq] at h1
       exact h1.2
      have hyf := (hE.2 y (List.mem_of_getElem? hjy)).2
      have hget : (es.getD j (z,z)).2 = y.2 := by rw [List.getD_eq_getElem?_getD,hjy]; rfl
      simp only [Nat.zero_add] at hf ⊢
      refine ⟨if ok then .tuple #[iJ y.2,.bool true] else iJ y.2,?_,?_⟩
      ·simp [Instr.lookup,aT hu,MapKept.run_getObj_map hb,MapKept.run_checkKey hku hik,MapKept.run_findKey hku hf,hev,Result.andThen]
      ·cases ok
       ·simp only [DU,VZ,AR,hget]; exact aJR hyf
       ·simp only [DU,VZ,AR,if_true,Option.isSome_some,hget]
        exact ⟨_,rfl,by simp only [ARv,AR]; exact ⟨_,_,rfl,aJR hyf,_,_,rfl,by simp only [DR],rfl⟩⟩
    ·cases he
   ·cases he
  ·cases he
 ·cases he
theorem aH3 {P : Program} {t : TypeId} {m k v x : A} {vm vk vv : Value} {h' : H} (he : HF P h t m k v = some (x,h')) (r : Rel G h ρ w I) (hm : AR h ρ w I m vm) (hk : AR h ρ w I k vk) (hv : AR h ρ w I v vv) :
  x = .d .undef ∧ ∃ ρ' w',(Instr.mapUpdate t vm vk vv).run P w = .ok () w' ∧ Step G h ρ w I h' ρ' w' I := by
 unfold HF at he
 split at he
 ·rename_i kt et id k v hmt
  split at he
  ·rename_i es hid
   split at he
   ·rename_i hc
    simp only [Bool.and_eq_true] at hc
    split at he
    ·rename_i rr hkat
     cases he
     refine ⟨rfl,?_⟩
     obtain ⟨k0,hu,hku⟩ := aEq hmt
     obtain ⟨hik,hfk⟩ := aHE hc.1
     obtain ⟨b,M,c,rfl,hρ,hIb,hb,hE⟩ := aJW r hm hid
     simp only [AR] at hk hv
     have hvk := WR hfk hk
     subst hvk
     have hvv := WR hc.2 hv
     subst hvv
     have fin : ∀ (M' : Array MapEntry) (c' : Nat),aDz (IR es k v rr) M' → Step G h ρ w I (h.set id (.mp (IR es k v rr))) (upd ρ id (ρ id)) { w with heap := w.heap.setIfInBounds b (.map M' c') } I := by
      intro M' c' hE'
      have hbl : b < w.heap.size := (Array.getElem?_eq_some_iff.1 hb).1
      refine jZ r hid trivial (ρ id) rfl rfl rfl (by simp) (fun q hq hne => ?_) (fun _ hb => hb) (fun _ hb => .inl hb) (fun q hq => .inl hq) (fun _ gen off len a cap hs => by simp only [slOK,hid] at hs) (fun _ gen q hs => by simp only [ptOK,hid] at hs) (fun _ => ?_) (hmp := fun es' _ => ⟨⟨_,rfl⟩,rfl⟩)
      ·simp only [Array.getElem?_setIfInBounds]
       rw [if_neg (fun e => hne (by rw [hρ,e]))]
      ·simp only [OR,bP]
       exact ⟨b,hρ,hIb,M',c',by simp [Array.getElem?_setIfInBounds,hbl],hE'⟩
     rw [d9] at fin
     rcases QN es M.toList 0 rr hE.1 hkat with ⟨rfl,hf⟩ | ⟨j,e,y,rfl,hje,hjy,hf,hke⟩
     ·refine ⟨ρ,_,?_,fin (M.push ⟨iJ k,iJ v,c⟩) (c + 1) ⟨by simp [IR,hE.1],?_⟩⟩
      ·simp [Instr.mapUpdate,aT hu,MapKept.run_getObj_map hb,MapKept.run_checkKey hku hik,MapKept.run_findKey hku hf,MapKept.run_setObj_map _ hb,Result.andThen]
      ·intro q hq
       simp only [IR,List.mem_append,List.mem_singleton] at hq
       rcases hq with hq | rfl
       ·exact hE.2 q hq
       ·exact ⟨hfk,hc.2⟩
     ·simp only [Nat.zero_add] at hf fin ⊢
      have hjM : M[j]? = some e := by simpa using hje
      refine ⟨ρ,_,?_,fin (M.modify j fun e => { e with key := iJ k,val := iJ v }) c ⟨?_,?_⟩⟩
      ·simp [Instr.mapUpdate,aT hu,MapKept.run_getObj_map hb,MapKept.run_checkKey hku hik,MapKept.run_findKey hku hf,hjM,hke,MapKept.run_keyThatStays hik,MapKept.run_setObj_map _ hb,Result.andThen]
      ·have hjl := (List.getElem?_eq_some_iff.1 hjy).1
       apply List.ext_getElem?
       intro q
       have h1 := congrArg (fun l => l[q]?) hE.1
       simp only [List.getElem?_map] at h1
       simp only [IR,Array.toList_modify,List.getElem?_map,List.getElem?_modify,List.getElem?_set]
       by_cases hq : j = q
       ·subst hq
        simp [hje,hjl]
       ·simp only [hq,if_false,Option.map_map]
        have : (fun (e : MapEntry) => (e.key,e.val)) ∘ (fun a => a) = fun (e : MapEntry) => (e.key,e.val) := rfl
        simpa using h1
      ·intro q hq
       simp only [IR] at hq
       rcases List.mem_or_eq_of_mem_set hq with hq | rfl
       ·exact hE.2 q hq
       ·exact ⟨hfk,hc.2⟩
    ·cases he
   ·cases he
  ·cases he
 ·cases he
theorem aJZ {P : Program} {t : TypeId} (r : Rel G h ρ w I) : ∃ ρ' w' u,(Instr.makeMap t none).run P w = .ok u w' ∧ Step G h ρ w I (h ++ [.mp []]) ρ' w' I ∧ AR (h ++ [.mp []]) ρ' w' I (.mp h.length) u := by
 have hlt : ¬ I w.heap.size := fun hb => by have := r.imm _ hb; omega
 refine ⟨upd ρ h.length (some w.heap.size),{ w with heap := w.heap.push (.map #[] 0) },.map (some w.heap.size),by simp [Instr.makeMap,newObj,Sem.run],j4 r (Grew.push w _) (.mp []) (some w.heap.size) (fun b hb => by cases hb; exact Nat.le_refl _) (fun _ => ?_),?_⟩
 ·simp only [OR,bP]
  exact ⟨_,rfl,hlt,#[],0,by simp,rfl,by simp⟩
 ·simp only [AR,mpOK]
  exact ⟨_,rfl,by simp [bP]⟩
theorem aKn {b : Builtin} {tys : Array TypeId} {ty : TypeId} {consts : Array Bool} {vs : List A} {x : A} {h' : H} {us : List Value} (he : cY E.P h b tys.toList vs = some (x,h')) (r : Rel G h ρ w I) (ha : ARv h ρ w I vs us) :
  ∃ v ρ' w',(builtin b tys ty consts us.toArray).run E.P w = .ok (.value v) w' ∧ Step G h ρ w I h' ρ' w' I ∧ AR h' ρ' w' I x v := by
 unfold cY at he
 split at he
 ·rename_i t rest id htys
  obtain ⟨v,r0,rfl,h1,h2⟩ := nE ha
  simp only [ARv] at h2; subst h2
  have ht : tys[0]? = some t := by
   have : tys.toList[0]? = some t := by rw [htys]; rfl
   simpa using this
  obtain ⟨rfl,u,hu,hx⟩ := aKX (ty := ty) ht he r h1
  exact ⟨u,ρ,w,by simp only [builtin,Sem.run_bind,hu]; rfl,.refl r,hx⟩
 ·rename_i t rest a _ htys
  simp only [Option.map_eq_some_iff] at he
  obtain ⟨x',hb,hh⟩ := he
  cases hh
  obtain ⟨v,r0,rfl,h1,h2⟩ := nE ha
  simp only [ARv] at h2; subst h2
  have ht : tys[0]? = some t := by
   have : tys.toList[0]? = some t := by rw [htys]; rfl
   simpa using this
  obtain ⟨u,hu,hx⟩ := aSl (P := E.P) (w := w) (ty := ty) ht hb h1
  exact ⟨u,ρ,w,by simp only [builtin,Sem.run_bind,hu]; rfl,.refl r,hx⟩
 ·rename_i t u s y htys
  have ht : tys = #[t,u] := by
   rw [← Array.toList_inj,htys]
  subst ht
  obtain ⟨sv,r0,rfl,h1,h2⟩ := nE ha
  obtain ⟨xv,r1,rfl,h3,h4⟩ := nE h2
  simp only [ARv] at h4; subst h4
  split at he
  ·cases he
  ·cases he
  ·rename_i d hnd hd
   obtain ⟨v,ρ',w',h5,h6,h7⟩ := aLY (P := E.P) (ty := ty) hd (fun k hk => hnd k hk) he r h1 h3
   exact ⟨v,ρ',w',by simp only [builtin,Sem.run_bind,h5]; rfl,h6,h7⟩
 ·cases he
theorem NY (hE : EnvOK E) (hc : nO G E.P call) {thaw : List Nat} {o : Oper} {act : Act} {vs : List A} {x : A} {h' : H} (he : evOp E call thaw h o vs = some (x,h')) (r : Rel G h ρ w I) (ha : ARv h ρ w I vs ((opds o.op).map act.eval)) :
  KL G E h ρ w I o act x h' := by
 obtain ⟨dst,op,type,pos,after,guard⟩ := o
 cases op with
 | move y =>
  simp only [evOp] at he
  obtain ⟨a,hvs,he2⟩ := j0 he
  clear he; subst hvs; have he := he2; clear he2
  cases he
  exact bC (v := act.eval y) rfl (.refl r) (sK ha)
 | assign y =>
  simp only [evOp] at he
  obtain ⟨a,hvs,he2⟩ := j0 he
  clear he; subst hvs; have he := he2; clear he2
  have hval : AR h ρ w I a (act.eval y) := sK ha
  have plain : KL G E h ρ w I { dst,op := .assign y,type,pos,after,guard } act a h := bC (v := act.eval y) rfl (.refl r) hval
  unfold dM at he
  split at he
  ·split at he
   ·cases he; exact plain
   ·rename_i e _
    split at he
    ·cases he
     have s1 := j4 r (Grew.refl w) (.arr [] e 0) none (by simp) (fun _ => by simp [OR,bP])
     refine bC (v := act.eval _) rfl s1 ?_
     simp only [AR,DR] at hval ⊢
     obtain ⟨a,hval⟩ := hval
     refine ⟨a,0,hval,?_⟩
     have e : (h ++ [O.arr [] e 0])[h.length]? = some (.arr [] e 0) := by simp
     simp only [slOK,e,bP]
     simp
    ·cases he
     have s1 := j4 r (Grew.refl w) (.vec [] (e - 1000) 0) none (by simp) (fun _ => by simp [OR,bP])
     refine bC (v := act.eval _) rfl s1 ?_
     simp only [AR,DR] at hval ⊢
     obtain ⟨a,hval⟩ := hval
     refine ⟨a,0,hval,?_⟩
     have e : (h ++ [O.vec [] (e - 1000) 0])[h.length]? = some (.vec [] (e - 1000) 0) := by simp
     simp only [slOK,e,bP]
     simp
  ·cases he; exact plain
 | pick c y z =>
  simp only [evOp,OK] at he
  split at he
  ·rename_i b p q
   cases he
   obtain ⟨h1,h2,h3⟩ := aAy ha
   simp only [AR,DR] at h1
   refine bC (v := if b then act.eval y else act.eval z) ?_ (.refl r) ?_
   ·simp only [execOp,Sem.run_bind,h1]
    cases b <;> rfl
   ·cases b
    ·exact h3
    ·exact h2
  ·cases he
 | alloc t =>
  simp only [evOp,Option.bind_eq_some_iff] at he
  obtain ⟨z,hz,he⟩ := he
  obtain ⟨i,zv,hi,hzv,hrun,hzr⟩ := N2 hz
  obtain ⟨ρ',w',h1,h2,h3⟩ := aNE (P := E.P) (t := t) he r (hzr h ρ w I)
  exact bC (v := .pointer (some ⟨w.heap.size,0,none⟩)) (by simp [execOp,Instr.alloc,hrun,h1]) h2 h3
 | box t y =>
  simp only [evOp] at he
  obtain ⟨a,hvs,he2⟩ := j0 he
  clear he; subst hvs; have he := he2; clear he2
  obtain ⟨ρ',w',h1,h2,h3⟩ := aNE (P := E.P) (t := t) he r (sK ha)
  exact bC (v := .pointer (some ⟨w.heap.size,0,none⟩)) (by simp [execOp,Instr.box,h1]) h2 h3
 | build t parts =>
  simp only [evOp,Option.map_eq_some_iff] at he
  obtain ⟨a,he,hh⟩ := he
  cases hh
  obtain ⟨u,h1,h2⟩ := aOj (P := E.P) (ev := act.eval) he ha
  exact bC (v := u) (by simp only [execOp,Sem.run_bind,h1]; rfl) (.refl r) h2
 | buildSlice t len parts =>
  simp only [evOp] at he
  split at he
  ·obtain ⟨u,ρ',w',I',h1,h2,h3⟩ := aIk (P := E.P) (ev := act.eval) he r ha
   exact bC (v := u) (by simp only [execOp,Sem.run_bind,h1]; rfl) h2 h3
  ·obtain ⟨u,ρ',w',I',h1,h2,h3⟩ := aFT (P := E.P) (ev := act.eval) he r ha
   exact bC (v := u) (by simp only [execOp,Sem.run_bind,h1]; rfl) h2 h3
 | load t y =>
  simp only [evOp] at he
  obtain ⟨a,hvs,he2⟩ := j0 he
  clear he; subst hvs; have he := he2; clear he2
  simp only [Option.map_eq_some_iff] at he
  obtain ⟨a',he,hh⟩ := he
  cases hh
  obtain ⟨u,h1,h2⟩ := aJS (P := E.P) he r (sK ha)
  exact bC (v := u) (by simp only [execOp,Sem.run_bind,h1]; rfl) (.refl r) h2
 | store t y z =>
  simp only [evOp] at he
  obtain ⟨a,b,hvs,he2⟩ := pR he
  clear he; subst hvs; have he := he2; clear he2
  simp only [Option.map_eq_some_iff] at he
  obtain ⟨h2,he,hh⟩ := he
  cases hh
  obtain ⟨h3,h4⟩ := BI ha
  obtain ⟨ρ',w',I',h5,h6⟩ := aOW (P := E.P) he r h3 h4
  intro K Q hK
  unfold Oper.wp
  have hrun : (execOp act.eval { dst,op := .store t y z,type,pos,after,guard }).run E.P w = .ok .skip w' := by
   simp only [execOp,Sem.run_bind,h5]; rfl
  rw [hrun,Oper.upon_skip]
  exact hK undef ρ' w' I' h6 (by simp only [AR,DR])
 | nilCheck y =>
  simp only [evOp] at he
  obtain ⟨a,hvs,he2⟩ := j0 he
  clear he; subst hvs; have he := he2; clear he2
  have hval : AR h ρ w I a (act.eval y) := sK ha
  unfold jU at he
  split at he
  ·cases he
   refine bC (v := act.eval y) ?_ (.refl r) hval
   simp only [AR] at hval
   obtain ⟨b,hv,_⟩ := hval
   simp only [execOp,hv]; rfl
  ·cases he
   refine bC (v := act.eval y) ?_ (.refl r) hval
   simp only [AR,DR] at hval
   obtain ⟨b,o,hv,_⟩ := hval
   simp only [execOp,hv]; rfl
  ·cases he
   refine bC (v := act.eval y) ?_ (.refl r) hval
   simp only [AR] at hval
   obtain ⟨b,hv,_⟩ := hval
   simp only [execOp,hv]; rfl
  ·cases he
   refine bC (v := act.eval y) ?_ (.refl r) hval
   simp only [AR,DR] at hval
   obtain ⟨b,hv,_⟩ := hval
   simp only [execOp,hv]; rfl
  ·cases he
 | binOp bop t y z t2 =>
  simp only [evOp] at he
  obtain ⟨a,b,hvs,he2⟩ := pR he
  clear he; subst hvs; have he := he2; clear he2
  obtain ⟨h1,h2⟩ := BI ha
  have fin : ∀ x',(∃ u,(do eqGuard bop t y z (act.eval y) (act.eval z); binOp bop t (act.eval y) (act.eval z) : Sem Value).run E.P w = .ok u w ∧ AR h ρ w I x' u) → KL G E h ρ w I { dst,op := .binOp bop t y z t2,type,pos,after,guard } act x' h := by
   rintro x' ⟨u,hu,hx⟩
   exact bC (v := u) (by simp only [execOp]; rw [Sem.run_bind,hu]; rfl) (.refl r) hx
  unfold cV at he
  split at he
  ·rename_i x' hb
   cases he
   exact fin _ (aSq hb h1 h2)
  ·split at he
   ·rename_i x' hb
    cases he
    exact fin _ (aR6 hb h1 h2)
   ·simp only [Option.map_eq_some_iff] at he
    obtain ⟨x',hb,hh⟩ := he
    cases hh
    exact fin _ (aO7 hE.eqs hb h1 h2)
 | unOp uop t y =>
  simp only [evOp] at he
  obtain ⟨a,hvs,he2⟩ := j0 he
  clear he; subst hvs; have he := he2; clear he2
  simp only [Option.map_eq_some_iff] at he
  obtain ⟨x',hb,hh⟩ := he
  cases hh
  obtain ⟨u,h1,h2⟩ := aSK (P := E.P) (w := w) hb (sK ha)
  exact bC (v := u) (by simp only [execOp,Sem.run_bind,h1]; rfl) (.refl r) h2
 | convert src dst' y =>
  simp only [evOp] at he
  obtain ⟨a,hvs,he2⟩ := j0 he
  clear he; subst hvs; have he := he2; clear he2
  obtain ⟨u,ρ',w',h1,h2,h3⟩ := aKf (P := E.P) he r (sK ha)
  exact bC (v := u) (by simp only [execOp,Sem.run_bind,h1]; rfl) h2 h3
 | makeFunc fn first caps =>
  simp only [evOp,NT] at he
  split at he
  ·rename_i f
   split at he
   ·rename_i h0
    cases he
    have hf : first = #[] := by simpa using h0
    subst hf
    refine bC (v := .func (.func f) #[] (caps.map act.eval)) (by simp [execOp,Instr.makeFunc]) (.refl r) ?_
    simp only [AR]
    exact ⟨_,rfl,by simpa [opds] using ha⟩
   ·cases he
  ·cases he
 | makeSlice t y z =>
  simp only [evOp] at he
  obtain ⟨a,b,hvs,he2⟩ := pR he
  clear he; subst hvs; have he := he2; clear he2
  obtain ⟨k,l,hvs,he2⟩ := m2 he
  clear he; subst hvs
  obtain ⟨k',c,hvs,he⟩ := m2 he2
  clear he2; subst hvs
  obtain ⟨h1,h2⟩ := BI ha
  split at he
  ·obtain ⟨u,ρ',w',h3,h4,h5⟩ := aKt (P := E.P) (k := k) (k' := k') he r
   exact bC (v := u) (by simp only [execOp,Sem.run_bind,wM h1,wM h2,h3]; rfl) h4 h5
  ·obtain ⟨u,ρ',w',h3,h4,h5⟩ := aHC (P := E.P) (k := k) (k' := k') he r
   exact bC (v := u) (by simp only [execOp,Sem.run_bind,wM h1,wM h2,h3]; rfl) h4 h5
 | slice t y lo hi mx =>
  simp only [evOp] at he
  cases mx with
  | some m => simp at he
  | none =>
   simp only [Option.isNone_none,if_true] at he
   unfold lD at he
   cases lo with
   | none =>
    cases hi with
    | none =>
     simp only [Option.isSome_none] at he
     split at he
     ·simp only [Option.map_eq_some_iff] at he
      obtain ⟨x',hb,hh⟩ := he
      cases hh
      obtain ⟨u,h1,h2⟩ := QU (P := E.P) .i64 .i64 hb (sK ha)
      exact bC (v := u) (by simp only [execOp,Sem.run_bind,Option.map_none]; simp only [optV,Option.map_none] at h1; rw [h1]; rfl) (.refl r) h2
     all_goals simp at *
    | some hv =>
     simp only [Option.isSome_none,Option.isSome_some] at he
     split at he
     ·simp at *
     ·simp at *
     ·rename_i a k l _ _
      simp only [Option.map_eq_some_iff] at he
      obtain ⟨x',hb,hh⟩ := he
      cases hh
      obtain ⟨h3,h4⟩ := BI ha
      obtain ⟨u,h1,h2⟩ := QU (P := E.P) .i64 k hb h3
      exact bC (v := u) (by simp only [execOp,Sem.run_bind,Option.map_none,Option.map_some,wM h4]; simp only [optV,Option.map_none,Option.map_some] at h1; rw [h1]; rfl) (.refl r) h2
     all_goals simp at *
   | some lv =>
    cases hi with
    | none =>
     simp only [Option.isSome_none,Option.isSome_some] at he
     split at he
     ·simp at *
     ·rename_i a k l _ _
      simp only [Option.map_eq_some_iff] at he
      obtain ⟨x',hb,hh⟩ := he
      cases hh
      obtain ⟨h3,h4⟩ := BI ha
      obtain ⟨u,h1,h2⟩ := QU (P := E.P) k .i64 hb h3
      exact bC (v := u) (by simp only [execOp,Sem.run_bind,Option.map_none,Option.map_some,wM h4]; simp only [optV,Option.map_none,Option.map_some] at h1; rw [h1]; rfl) (.refl r) h2
     all_goals simp at *
    | some hv =>
     simp only [Option.isSome_some] at he
     split at he
     ·simp at *
     ·simp at *
     ·simp at *
     ·rename_i a k l k' u' _ _
      simp only [Option.map_eq_some_iff] at he
      obtain ⟨x',hb,hh⟩ := he
      cases hh
      obtain ⟨h3,h4,h5⟩ := aAy ha
      obtain ⟨u,h1,h2⟩ := QU (P := E.P) k k' hb h3
      exact bC (v := u) (by simp only [execOp,Sem.run_bind,Option.map_none,Option.map_some,wM h4,wM h5]; simp only [optV,Option.map_some] at h1; rw [h1]; rfl) (.refl r) h2
     ·simp at *
 | fieldAddr t y f =>
  simp only [evOp] at he
  obtain ⟨a,hvs,he2⟩ := j0 he
  clear he; subst hvs; have he := he2; clear he2
  simp only [Option.bind_eq_some_iff,Option.map_eq_some_iff] at he
  obtain ⟨⟨off,ft⟩,hf,x',hb,hh⟩ := he
  cases hh
  obtain ⟨u,h1,h2⟩ := aG8 (P := E.P) (w := w) hf hb (sK ha)
  exact bC (v := u) (by simp only [execOp,Sem.run_bind,h1]; rfl) (.refl r) h2
 | field t y f =>
  simp only [evOp] at he
  obtain ⟨a,hvs,he2⟩ := j0 he
  clear he; subst hvs; have he := he2; clear he2
  unfold HZ at he
  split at he
  ·rename_i cs off ft hf
   simp only [Option.map_eq_some_iff,Option.bind_eq_some_iff] at he
   obtain ⟨x',⟨b,hb,ho⟩,hh⟩ := he
   cases hh
   obtain ⟨u,h1,h2⟩ := aO6 (P := E.P) (w := w) hf hb ho (sK ha)
   exact bC (v := u) (by simp only [execOp,Sem.run_bind,h1]; rfl) (.refl r) h2
  ·cases he
 | indexAddr t y z =>
  simp only [evOp] at he
  obtain ⟨a,b,hvs,he2⟩ := pR he
  clear he; subst hvs; have he := he2; clear he2
  obtain ⟨k,i,hvs,he2⟩ := m2 he
  clear he; subst hvs; have he := he2; clear he2
  simp only [Option.map_eq_some_iff] at he
  obtain ⟨x',hb,hh⟩ := he
  cases hh
  obtain ⟨h3,h4⟩ := BI ha
  obtain ⟨u,h1,h2⟩ := aF6 (P := E.P) (k := k) hb h3
  exact bC (v := u) (by simp only [execOp,Sem.run_bind,wM h4,h1]; rfl) (.refl r) h2
 | index t y z =>
  simp only [evOp] at he
  obtain ⟨a,b,hvs,he2⟩ := pR he
  clear he; subst hvs; have he := he2; clear he2
  obtain ⟨k,i,hvs,he2⟩ := m2 he
  clear he; subst hvs; have he := he2; clear he2
  simp only [Option.map_eq_some_iff] at he
  obtain ⟨x',hb,hh⟩ := he
  cases hh
  obtain ⟨h3,h4⟩ := BI ha
  obtain ⟨u,h1,h2⟩ := aOV (P := E.P) (w := w) (k := k) hb h3
  exact bC (v := u) (by simp only [execOp,Sem.run_bind,wM h4,h1]; rfl) (.refl r) h2
 | extract y i =>
  simp only [evOp] at he
  obtain ⟨a,hvs,he2⟩ := j0 he
  clear he; subst hvs; have he := he2; clear he2
  unfold y9 at he
  split at he
  ·rename_i vs
   simp only [Option.map_eq_some_iff] at he
   obtain ⟨x',hb,hh⟩ := he
   cases hh
   have h1 := sK ha
   simp only [AR] at h1
   obtain ⟨C,hC,hv⟩ := h1
   obtain ⟨u,hu,hx⟩ := ((iB _ _).1 hv).2 i x hb
   have hu' : C[i]? = some u := by simpa using hu
   refine bC (v := u) ?_ (.refl r) hx
   simp only [execOp,hC]
   simp [Instr.extract,hu']
  ·cases he
 | call c =>
  obtain ⟨callee,args,tys⟩ := c
  cases callee with
  | value f =>
   simp only [evOp,eS] at he
   split at he
   ·rename_i g as
    obtain ⟨gv,rest,h1,h2,h3⟩ := nE ha
    simp only [opds,List.map_cons,List.cons.injEq] at h1
    obtain ⟨h4,h5⟩ := h1
    subst h4; subst h5
    obtain ⟨k,as',h6,h7⟩ := aKG hc he r h2 h3
    refine aIB (f := k) (as := as') ?_ h7
    simp only [execOp,resolve]
    have e : (args.map act.eval) = (args.toList.map act.eval).toArray := by apply Array.toList_inj.1; simp
    rw [e]
    exact h6
   ·cases he
  | builtin b =>
   simp only [evOp,eS] at he
   obtain ⟨v,ρ',w',h1,h2,h3⟩ := aKn (ty := type) (consts := args.map fun | .const _ => true | _ => false) he r ha
   refine bC (v := v) ?_ h2 h3
   simp only [execOp,resolve,Sem.run_bind,Sem.run_pure,Result.andThen_ok,invoke]
   have e : (args.map act.eval) = (args.toList.map act.eval).toArray := by apply Array.toList_inj.1; simp
   rw [e]
   exact h1
  | invoke a b => cases he
 | makeMap t y =>
  simp only [evOp] at he
  split at he
  ·rename_i hn
   have hy : y = none := by simpa using hn
   subst hy
   cases he
   obtain ⟨ρ',w',u,h1,h2,h3⟩ := aJZ (P := E.P) (t := t) r
   exact bC (v := u) (by simp only [execOp,Option.map_none,Sem.run_bind,h1]; rfl) h2 h3
  ·cases he
 | lookup t y z ok =>
  simp only [evOp] at he
  obtain ⟨a,b,hvs,he2⟩ := pR he
  clear he; subst hvs; have he := he2; clear he2
  obtain ⟨h1,h2⟩ := BI ha
  obtain ⟨rfl,u,h3,h4⟩ := aLR (P := E.P) he r h1 h2
  exact bC (v := u) (by simp only [execOp,Sem.run_bind,h3]; rfl) (.refl r) h4
 | mapUpdate t y z q =>
  simp only [evOp] at he
  obtain ⟨a,b,c,hvs,he2⟩ := aJ0 he
  clear he; subst hvs; have he := he2; clear he2
  obtain ⟨h1,h2,h3⟩ := aAy ha
  obtain ⟨rfl,ρ',w',h4,h5⟩ := aH3 (P := E.P) he r h1 h2 h3
  intro K Q hK
  unfold Oper.wp
  have hrun : (execOp act.eval { dst,op := .mapUpdate t y z q,type,pos,after,guard }).run E.P w = .ok .skip w' := by
   simp only [execOp,Sem.run_bind,h4]; rfl
  rw [hrun,Oper.upon_skip]
  exact hK undef ρ' w' I h5 (by simp only [AR,DR])
 | _ => cases he
end
end Ev
end Go.Proofs.Ytppdfjdfjfoddaa
