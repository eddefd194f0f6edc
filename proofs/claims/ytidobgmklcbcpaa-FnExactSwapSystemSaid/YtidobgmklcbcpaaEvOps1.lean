/-
  Operations that do not change memory, and stores.
-/
import Derived.Test.YtidobgmklcbcpaaEvRun
namespace Go.Proofs.Ytidobgmklcbcpaa
namespace Ev

/-! ### constants and operands -/

theorem aScalar_ok {v : Value} {a : A} (he : aScalar v = some a) (h : H) (ρ : Rho) (w : World) (I : Nat → Prop) : AR h ρ w I a v := by
  unfold aScalar at he
  split at he <;> first
    | cases he
  all_goals simp only [AR, DR]
  exact ⟨none, rfl⟩

theorem aScalars_ok : ∀ {vs : List Value} {as : List A}, aScalars vs = some as → ∀ (h : H) (ρ : Rho) (w : World) (I : Nat → Prop), ARv h ρ w I as vs
  | [], as, he, h, ρ, w, I => by simp only [aScalars, Option.some.injEq] at he; subst he; simp only [ARv]
  | v :: vs, as, he, h, ρ, w, I => by
    simp only [aScalars] at he
    split at he
    · rename_i a as' ha has
      cases he
      simp only [ARv]
      exact ⟨v, vs, rfl, aScalar_ok ha h ρ w I, aScalars_ok has h ρ w I⟩
    · cases he

theorem aConst_ok {v : Value} {a : A} (he : aConst v = some a) (h : H) (ρ : Rho) (w : World) (I : Nat → Prop) : AR h ρ w I a v := by
  unfold aConst at he
  split at he
  · rename_i cs
    simp only [Option.map_eq_some_iff] at he
    obtain ⟨as, has, rfl⟩ := he
    simp only [AR]
    exact ⟨cs, rfl, aScalars_ok has h ρ w I⟩
  · exact aScalar_ok he h ρ w I

theorem aEval_ok {s : List A} {x : Operand} {a : A} (he : aEval s x = some a) {h : H} {ρ : Rho} {w : World} {I : Nat → Prop} {act : Act} (hs : ARv h ρ w I s act.tmps.toList) : AR h ρ w I a (act.eval x) := by
  cases x with
  | tmp t =>
    simp only [aEval, Option.some.injEq] at he
    subst he
    simp only [Act.eval]
    obtain ⟨hl, hall⟩ := (ARv_iff _ _).1 hs
    rcases Nat.lt_or_ge t s.length with hlt | hge
    · obtain ⟨v, hv, ha⟩ := hall t s[t] (by simp)
      have e1 : s.getD t (.d .undef) = s[t] := by simp [hlt]
      have e2 : act.tmps.getD t undef = v := by
        have : act.tmps[t]? = some v := by simpa using hv
        rw [Array.getD_eq_getD_getElem?, this]; rfl
      rw [e1, e2]; exact ha
    · have e1 : s.getD t (.d .undef) = .d .undef := by simp [List.getD_eq_getElem?_getD, List.getElem?_eq_none hge]
      have e2 : act.tmps.getD t undef = undef := by
        rw [Array.getD_eq_getD_getElem?, Array.getElem?_eq_none (by simpa [hl] using hge)]; rfl
      rw [e1, e2]; simp only [AR, DR]
  | const v => exact aConst_ok he h ρ w I
  | func f =>
    simp only [aEval, Option.some.injEq] at he
    subst he
    simp only [Act.eval, AR]
    exact ⟨#[], rfl, by simp only [ARv]⟩
  | global g => cases he

theorem aEvals_ok {s : List A} {h : H} {ρ : Rho} {w : World} {I : Nat → Prop} {act : Act} (hs : ARv h ρ w I s act.tmps.toList) : ∀ {xs : List Operand} {as : List A}, aEvals s xs = some as → ARv h ρ w I as (xs.map act.eval)
  | [], as, he => by simp only [aEvals, Option.some.injEq] at he; subst he; simp only [List.map_nil, ARv]
  | x :: xs, as, he => by
    simp only [aEvals] at he
    split at he
    · rename_i a as' ha has
      cases he
      simp only [List.map_cons, ARv]
      exact ⟨_, _, rfl, aEval_ok ha hs, aEvals_ok hs has⟩
    · cases he

/-! ### shapes -/

section shapes
variable {h : H} {ρ : Rho} {w : World} {I : Nat → Prop}

theorem one_of {a : A} {v : Value} (ha : AR h ρ w I a v) (ho : okCell a = true) : v.oneCell' = true := by
  cases a with
  | d x =>
    simp only [AR] at ha
    cases x <;> simp only [DR] at ha
    all_goals first
      | (simp [okCell] at ho; done)
      | (subst ha; rfl)
      | (obtain ⟨_, _, rfl, _⟩ := ha; rfl)
      | (obtain ⟨_, rfl, _⟩ := ha; rfl)
      | (obtain ⟨_, rfl⟩ := ha; rfl)
  | sl id gen off len => simp only [AR] at ha; obtain ⟨_, _, rfl, _⟩ := ha; rfl
  | ptr id gen off => simp only [AR] at ha; obtain ⟨_, rfl, _⟩ := ha; rfl
  | clo f caps => simp only [AR] at ha; obtain ⟨_, rfl, _⟩ := ha; rfl
  | agg cs => simp [okCell] at ho
  | tup cs => simp [okCell] at ho
  | junk => simp [okCell] at ho

theorem cells_one {v : Value} (ho : v.oneCell' = true) : v.cells = #[v] := by
  cases v <;> first | rfl | simp [Value.oneCell'] at ho

theorem cells_ok {a : A} {v : Value} (ha : AR h ρ w I a v) (ho : (cellsA a).all okCell = true) : ARv h ρ w I (cellsA a) v.cells.toList ∧ ∀ u ∈ v.cells.toList, u.oneCell' = true := by
  have single : okCell a = true → cellsA a = [a] → ARv h ρ w I (cellsA a) v.cells.toList ∧ ∀ u ∈ v.cells.toList, u.oneCell' = true := by
    intro hk hc
    have h1 := one_of ha hk
    rw [hc, cells_one h1]
    exact ⟨by simp only [ARv]; exact ⟨v, [], rfl, ha, rfl⟩, fun u hu => by simp at hu; subst hu; exact h1⟩
  cases a with
  | agg cs =>
    simp only [AR] at ha
    obtain ⟨C, rfl, hc⟩ := ha
    refine ⟨hc, fun u hu => ?_⟩
    obtain ⟨k, hk, hk'⟩ := List.getElem_of_mem hu
    obtain ⟨hl, hall⟩ := (ARv_iff _ _).1 hc
    have hk2 : k < cs.length := by
      have : C.toList.length = cs.length := hl.symm
      have e : (Value.agg C).cells.toList = C.toList := rfl
      simp only [e] at hk
      omega
    obtain ⟨u', hu', ha'⟩ := hall k cs[k] (by simp)
    have e : u' = u := by
      have e1 : (Value.agg C).cells.toList[k]? = some u := by rw [← hk']; simp
      have e2 : C.toList[k]? = some u := e1
      rw [hu'] at e2; exact Option.some.inj e2
    subst e
    exact one_of ha' (by
      have := List.all_eq_true.1 ho cs[k] (by simp [cellsA])
      exact this)
  | d x => exact single (by simpa [cellsA] using ho) rfl
  | sl id gen off len => exact single (by simpa [cellsA] using ho) rfl
  | ptr id gen off => exact single (by simpa [cellsA] using ho) rfl
  | clo f caps => exact single (by simpa [cellsA] using ho) rfl
  | tup cs => exact single (by simpa [cellsA] using ho) rfl
  | junk => exact single (by simpa [cellsA] using ho) rfl

theorem ARv_len {as : List A} {vs : List Value} (ha : ARv h ρ w I as vs) : as.length = vs.length := ((ARv_iff _ _).1 ha).1

theorem ARv_drop {as : List A} {vs : List Value} (n : Nat) (ha : ARv h ρ w I as vs) : ARv h ρ w I (as.drop n) (vs.drop n) := by
  rw [ARv_iff] at ha ⊢
  refine ⟨by simp [ha.1], fun k a hk => ?_⟩
  simpa using ha.2 (n + k) a (by simpa using hk)

theorem ARv_take {as : List A} {vs : List Value} (n : Nat) (ha : ARv h ρ w I as vs) : ARv h ρ w I (as.take n) (vs.take n) := by
  rw [ARv_iff] at ha ⊢
  refine ⟨by simp [ha.1], fun k a hk => ?_⟩
  rw [List.getElem?_take] at hk ⊢
  split at hk
  · rename_i hlt; rw [if_pos hlt]; exact ha.2 k a hk
  · cases hk

theorem ARv_append {as bs : List A} {vs us : List Value} (ha : ARv h ρ w I as vs) (hb : ARv h ρ w I bs us) : ARv h ρ w I (as ++ bs) (vs ++ us) := by
  induction as generalizing vs with
  | nil => simp only [ARv] at ha; subst ha; simpa using hb
  | cons a as ih =>
    simp only [ARv] at ha
    obtain ⟨v, rest, rfl, h1, h2⟩ := ha
    simp only [List.cons_append, ARv]
    exact ⟨v, rest ++ us, rfl, h1, ih h2⟩

/-- A part of a struct or an array that is a value. -/
theorem part_ok {P : Program} {t : TypeId} {cs : List A} {C : Array Value} {off : Nat} {b : Bool} {x : A} (hb : isAggT P t = some b) (he : ofCells b (P.cellsOf t) (cs.drop off) = some x) (hc : ARv h ρ w I cs C.toList) :
    ∃ u, (part t C off).run P w = .ok u w ∧ AR h ρ w I x u := by
  have hinfo : ∃ i, P.info? t = some i := by
    unfold isAggT at hb
    cases hu : P.underlying t with
    | none => rw [hu] at hb; cases hb
    | some d => exact under_info hu
  obtain ⟨i, hi⟩ := hinfo
  unfold ofCells at he
  cases b with
  | true =>
    rw [if_pos rfl] at he
    split at he
    · cases he
      refine ⟨.agg (C.extract off (off + P.cellsOf t)), by simp [part, run_isAgg hb, run_size hi], ?_⟩
      simp only [AR]
      refine ⟨_, rfl, ?_⟩
      have := ARv_take (P.cellsOf t) (ARv_drop off hc)
      have e : (C.extract off (off + P.cellsOf t)).toList = (C.toList.drop off).take (P.cellsOf t) := by
        simp [List.extract_eq_take_drop]
      rw [e]; exact this
    · cases he
  | false =>
    simp only [Bool.false_eq_true, if_false] at he
    rw [List.head?_drop] at he
    obtain ⟨u, hu, hau⟩ := ((ARv_iff _ _).1 hc).2 off x he
    have hu' : C[off]? = some u := by simpa using hu
    exact ⟨u, by simp [part, run_isAgg hb, hu'], hau⟩

theorem run_fieldPlace {P : Program} {b o : Nat} {f : Field} (hs : P.cellsOf f.type ≠ 0) : (fieldPlace ⟨b, o, none⟩ f).run P w = .ok ⟨b, o + f.offset, none⟩ w := by
  have hi : ∃ i, P.info? f.type = some i := by
    cases hi : P.info? f.type with
    | none => exfalso; apply hs; simp [Program.cellsOf, hi]
    | some i => exact ⟨i, rfl⟩
  obtain ⟨i, hi⟩ := hi
  simp [fieldPlace, run_size hi, hs, add_at]

theorem move_ok {a x : A} {off : Nat} {v : Value} (he : aMove off a = some x) (ha : AR h ρ w I a v) : ∃ b o, v = .pointer (some ⟨b, o, none⟩) ∧ AR h ρ w I x (.pointer (some ⟨b, o + off, none⟩)) := by
  cases a with
  | ptr id gen o =>
    simp only [aMove, Option.some.injEq] at he
    subst he
    simp only [AR] at ha ⊢
    obtain ⟨b, rfl, hp⟩ := ha
    exact ⟨b, o, rfl, b, rfl, hp⟩
  | d y =>
    cases y with
    | iptr cs =>
      simp only [aMove] at he
      split at he
      · cases he
        simp only [AR, DR] at ha ⊢
        obtain ⟨b, o, rfl, hI, hd⟩ := ha
        exact ⟨b, o, rfl, b, o + off, rfl, hI, DRs_drop off hd⟩
      · cases he
    | _ => simp [aMove] at he
  | _ => simp [aMove] at he

theorem fieldAddr_ok {P : Program} {t : TypeId} {f off : Nat} {ft : TypeId} {a x : A} {v : Value} (hf : fieldOff P t f = some (off, ft)) (he : aMove off a = some x) (ha : AR h ρ w I a v) :
    ∃ u, (Instr.fieldAt t v f).run P w = .ok u w ∧ AR h ρ w I x u := by
  unfold fieldOff at hf
  split at hf
  · rename_i fields hu
    split at hf
    · rename_i fd hfd
      split at hf
      · cases hf
      · rename_i hs
        cases hf
        obtain ⟨b, o, rfl, hx⟩ := move_ok he ha
        refine ⟨_, ?_, hx⟩
        simp [Instr.fieldAt, run_under hu, hfd, Instr.sureAddr, run_fieldPlace (w := w) hs]
    · cases hf
  · cases hf

theorem field_ok {P : Program} {t : TypeId} {f off : Nat} {ft : TypeId} {cs : List A} {x : A} {b : Bool} {v : Value} (hf : fieldOff P t f = some (off, ft)) (hb : isAggT P ft = some b) (he : ofCells b (P.cellsOf ft) (cs.drop off) = some x) (ha : AR h ρ w I (.agg cs) v) :
    ∃ u, (Instr.field t v f).run P w = .ok u w ∧ AR h ρ w I x u := by
  unfold fieldOff at hf
  split at hf
  · rename_i fields hu
    split at hf
    · rename_i fd hfd
      split at hf
      · cases hf
      · cases hf
        simp only [AR] at ha
        obtain ⟨C, rfl, hc⟩ := ha
        obtain ⟨u, hu', hx⟩ := part_ok hb he hc
        exact ⟨u, by simp [Instr.field, run_under hu, hfd, asAgg, hu'], hx⟩
    · cases hf
  · cases hf

theorem index_ok {P : Program} {t : TypeId} {a x : A} {k : IntKind} {i : Int} {v : Value} (he : aIndex P t a i = some x) (ha : AR h ρ w I a v) :
    ∃ u, (Instr.index t v (.int k i)).run P w = .ok u w ∧ AR h ρ w I x u := by
  unfold aIndex at he
  split at he
  · rename_i s hu
    split at he
    · rename_i h0
      simp only [Option.map_eq_some_iff] at he
      obtain ⟨b, hb, rfl⟩ := he
      simp only [AR, DR] at ha
      subst ha
      have hlt := (List.getElem?_eq_some_iff.1 hb).1
      have hb2 : (⟨s.toArray⟩ : ByteArray)[i.toNat]? = some b := by
        have hsz : i.toNat < (⟨s.toArray⟩ : ByteArray).size := by simpa [ByteArray.size] using hlt
        rw [getElem?_pos (⟨s.toArray⟩ : ByteArray) i.toNat hsz]
        have : (⟨s.toArray⟩ : ByteArray)[i.toNat] = s[i.toNat] := rfl
        rw [this, (List.getElem?_eq_some_iff.1 hb).2]
      refine ⟨.int .u8 b.toNat, ?_, by simp only [AR, DR]⟩
      simp [Instr.index, asIntOf, run_under hu, h0, hb2]
    · cases he
  · rename_i n e cs hu
    split at he
    · rename_i hi
      simp only [Option.bind_eq_some_iff] at he
      obtain ⟨b, hb, he⟩ := he
      simp only [AR] at ha
      obtain ⟨C, rfl, hc⟩ := ha
      obtain ⟨u, hu', hx⟩ := part_ok hb he hc
      have hinfo : ∃ j, P.info? e = some j := by
        unfold isAggT at hb
        cases hu : P.underlying e with
        | none => rw [hu] at hb; cases hb
        | some d => exact under_info hu
      obtain ⟨j, hj⟩ := hinfo
      exact ⟨u, by simp [Instr.index, asIntOf, run_under hu, hi, run_size hj, hu'], hx⟩
    · cases he
  · cases he

end shapes

end Ev
end Go.Proofs.Ytidobgmklcbcpaa
