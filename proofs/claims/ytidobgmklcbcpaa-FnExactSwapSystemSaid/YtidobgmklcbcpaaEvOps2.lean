/-
  Operations on numbers, strings and slices that change no memory.
-/
import Derived.Test.YtidobgmklcbcpaaEvOps1
import Derived.Laws.Strings
namespace Go.Proofs.Ytidobgmklcbcpaa
namespace Ev

section
variable {P : Program} {h : H} {ρ : Rho} {w : World} {I : Nat → Prop}

theorem info_of_pos {e : TypeId} (hp : 0 < P.cellsOf e) : ∃ i, P.info? e = some i := by
  cases hi : P.info? e with
  | none => exfalso; simp [Program.cellsOf, hi] at hp
  | some i => exact ⟨i, rfl⟩

theorem indexAddr_ok {t : TypeId} {a x : A} {k : IntKind} {i : Int} {v : Value} (he : aIndexAddr P h t a i = some x) (ha : AR h ρ w I a v) :
    ∃ u, (Instr.indexAt t v (.int k i)).run P w = .ok u w ∧ AR h ρ w I x u := by
  unfold aIndexAddr at he
  split at he
  · rename_i n e hu
    split at he
    · rename_i hc
      obtain ⟨j, hj⟩ := info_of_pos hc.1
      obtain ⟨b, o, rfl, hx⟩ := move_ok he ha
      refine ⟨_, ?_, hx⟩
      simp [Instr.indexAt, asIntOf, run_under hu, Instr.sureAddr, hc.2, run_size hj, add_at]
    · cases he
  · rename_i e hu
    split at he
    · rename_i n cs
      split at he
      · rename_i hc
        obtain ⟨j, hj⟩ := info_of_pos hc.1
        cases he
        simp only [AR, DR] at ha ⊢
        obtain ⟨a, cap, rfl, hcap, hcs⟩ := ha
        rcases hcs with hcs | ⟨b, o, rfl, hI, hd⟩
        · subst hcs; simp at hc
        · refine ⟨.pointer (some ⟨b, o + i.toNat * P.cellsOf e, none⟩), ?_, b, _, rfl, hI, DRs_drop _ hd⟩
          simp [Instr.indexAt, asIntOf, run_under hu, hc.2.1, hc.2.2.1, run_size hj, add_at]
      · cases he
    · rename_i id gen off len
      simp only [AR] at ha
      obtain ⟨a, cap, rfl, hs⟩ := ha
      have run : ∀ (b : Nat) (esz : Nat), a = some ⟨b, off, none⟩ → esz = P.cellsOf e → 0 < esz → 0 ≤ i → i < len → (Instr.indexAt t (.slice a len cap) (.int k i)).run P w = .ok (.pointer (some ⟨b, off + i.toNat * esz, none⟩)) w := by
        intro b esz ha he hpos h0 h1
        subst ha; subst he
        obtain ⟨j, hj⟩ := info_of_pos hpos
        simp [Instr.indexAt, asIntOf, run_under hu, h0, h1, run_size hj, add_at]
      cases hid : h[id]? with
      | none => rw [hid] at he; cases he
      | some o =>
        rw [hid] at he
        cases o with
        | box cs => cases he
        | void => cases he
        | arr cs esz g =>
          simp only [] at he
          split at he
          · rename_i hc
            cases he
            simp only [slOK, hid] at hs
            have h2 := (hs.2 hc.1.symm).2
            have h1 := (hs.2 hc.1.symm).1
            cases hρ : ρ id with
            | none => rw [hρ] at h2; simp only [] at h2; omega
            | some b =>
              rw [hρ] at h2
              rcases h2 with h2 | h2
              · omega
              · exact ⟨_, run b esz h2.1 hc.2.1 hc.2.2.1 hc.2.2.2.1 hc.2.2.2.2, by simp only [AR]; exact ⟨b, rfl, by simp only [ptOK, hid]; exact ⟨hs.1, fun _ => hρ⟩⟩⟩
          · cases he
        | vec cs esz g =>
          simp only [] at he
          split at he
          · rename_i hc
            cases he
            simp only [slOK, hid] at hs
            have h2 := (hs.2 hc.1.symm).2
            have h1 := (hs.2 hc.1.symm).1
            cases hρ : ρ id with
            | none => rw [hρ] at h2; simp only [] at h2; omega
            | some b =>
              rw [hρ] at h2
              rcases h2 with h2 | h2
              · omega
              · exact ⟨_, run b esz h2.1 hc.2.1 hc.2.2.1 hc.2.2.2.1 hc.2.2.2.2, by simp only [AR]; exact ⟨b, rfl, by simp only [ptOK, hid]; exact ⟨hs.1, fun _ => hρ⟩⟩⟩
          · cases he
        | ice cs esz g =>
          simp only [] at he
          split at he
          · rename_i hc
            cases he
            simp only [slOK, hid] at hs
            rcases (hs.2 hc.1.symm).2 with h2 | ⟨_, b, hb, hI, hd⟩
            · omega
            · exact ⟨_, run b esz hb hc.2.1 hc.2.2.1 hc.2.2.2.1 hc.2.2.2.2, by simp only [AR]; exact ⟨b, rfl, by simp only [ptOK, hid]; exact ⟨hs.1, fun _ => ⟨hI, hd⟩⟩⟩⟩
          · cases he
    · cases he
  · cases he

/-! ### slicing -/

def optV (k : IntKind) (o : Option Int) : Option Value := o.map (.int k)

theorem bounds_ok {n cap : Nat} {lo hi : Option Int} {l u : Nat} (isS : Bool) (he : aBounds n lo hi = some (l, u)) (hcap : n ≤ cap) (k k' : IntKind) :
    (Instr.sliceBounds isS n cap (optV k lo) (optV k' hi) none).run P w = .ok (l, u, cap) w ∧ l ≤ u ∧ u ≤ n := by
  unfold aBounds at he
  split at he
  · rename_i hc
    cases he
    obtain ⟨h1, h2, h3⟩ := hc
    refine ⟨?_, by omega, by omega⟩
    cases lo with
    | none =>
      cases hi with
      | none => simp [Instr.sliceBounds, optV]
      | some b =>
        simp only [Option.getD_some, Option.getD_none] at h2 h3
        simp [Instr.sliceBounds, optV, Instr.sliceBound, asIntOf, show (0 : Int) ≤ b ∧ b ≤ cap from ⟨by omega, by omega⟩]
    | some a =>
      cases hi with
      | none =>
        simp only [Option.getD_some, Option.getD_none] at h1 h2
        simp [Instr.sliceBounds, optV, Instr.sliceBound, asIntOf, show (0 : Int) ≤ a ∧ a ≤ n from ⟨h1, h2⟩]
      | some b =>
        simp only [Option.getD_some] at h1 h2 h3
        obtain ⟨a', rfl⟩ := Int.eq_ofNat_of_zero_le h1
        obtain ⟨b', rfl⟩ := Int.eq_ofNat_of_zero_le (Int.le_trans h1 h2)
        have e1 : b' ≤ cap := by omega
        have e2 : a' ≤ b' := by omega
        simp [Instr.sliceBounds, optV, Instr.sliceBound, asIntOf, e1, e2]
  · cases he

theorem slice_ok {t : TypeId} {a x : A} {lo hi : Option Int} {v : Value} (k k' : IntKind) (he : aSlice P h t a lo hi = some x) (ha : AR h ρ w I a v) :
    ∃ u, (Instr.sliceAt t v (optV k lo) (optV k' hi) none).run P w = .ok u w ∧ AR h ρ w I x u := by
  unfold aSlice at he
  split at he
  · rename_i s hu
    simp only [Option.map_eq_some_iff] at he
    obtain ⟨⟨l, u⟩, hb, rfl⟩ := he
    simp only [AR, DR] at ha ⊢
    subst ha
    have hsz : (⟨s.toArray⟩ : ByteArray).size = s.length := by simp [ByteArray.size]
    obtain ⟨h1, h2, h3⟩ := bounds_ok (P := P) (w := w) false hb (Nat.le_refl _) k k'
    rw [← hsz] at h1
    refine ⟨.string ((⟨s.toArray⟩ : ByteArray).extract l u), by simp only [Instr.sliceAt, Instr.slice, Sem.run_bind, run_under hu]; simp [run_under hu, h1], ?_⟩
    congr 1
    have e : ((⟨s.toArray⟩ : ByteArray).extract l u).data.toList = (s.drop l).take (u - l) := by
      simp [ByteArray.data_extract, List.extract_eq_take_drop]
    cases hx : (⟨s.toArray⟩ : ByteArray).extract l u with
    | mk d => rw [hx] at e; simp only at e; rw [← e]
  · rename_i e n cs hu
    split at he
    · rename_i hpos
      simp only [Option.map_eq_some_iff] at he
      obtain ⟨⟨l, u⟩, hb, rfl⟩ := he
      simp only [AR, DR] at ha ⊢
      obtain ⟨a, cap, rfl, hcap, hcs⟩ := ha
      obtain ⟨h1, h2, h3⟩ := bounds_ok (P := P) (w := w) true hb hcap k k'
      obtain ⟨j, hj⟩ := info_of_pos hpos
      refine ⟨.slice (if cap = l then a else a.map (·.add (l * P.cellsOf e))) (u - l) (cap - l), by simp only [Instr.sliceAt, Instr.slice, Sem.run_bind, run_under hu]; simp [run_under hu, h1, run_size hj], _, _, rfl, by omega, ?_⟩
      rcases hcs with rfl | ⟨b, o, rfl, hI, hd⟩
      · exact .inl (by simp)
      · by_cases hcl : cap = l
        · exact .inl (by rw [show u - l = 0 from by omega]; simp)
        · refine .inr ⟨b, o + l * P.cellsOf e, by simp [hcl, add_at], hI, DRs_take _ (DRs_drop _ hd)⟩
    · cases he
  · rename_i e id gen off len hu
    split at he
    · rename_i cs esz g hid
      split at he
      · rename_i hc
        simp only [Option.map_eq_some_iff] at he
        obtain ⟨⟨l, u⟩, hb, rfl⟩ := he
        simp only [AR] at ha ⊢
        obtain ⟨a, cap, rfl, hs⟩ := ha
        simp only [slOK, hid] at hs
        have h4 := hs.2 hc.1.symm
        obtain ⟨h1, h2, h3⟩ := bounds_ok (P := P) (w := w) true hb h4.1 k k'
        obtain ⟨j, hj⟩ := info_of_pos hc.2.1
        refine ⟨.slice (if cap = l then a else a.map (·.add (l * P.cellsOf e))) (u - l) (cap - l), by simp only [Instr.sliceAt, Instr.slice, Sem.run_bind, run_under hu]; simp [run_under hu, h1, run_size hj], _, _, rfl, ?_⟩
        simp only [slOK, hid]
        refine ⟨hs.1, fun hg => ⟨by omega, ?_⟩⟩
        have h5 := h4.2
        cases hρ : ρ id with
        | none => rw [hρ] at h5; simp only [] at h5 ⊢; omega
        | some b =>
          rw [hρ] at h5
          simp only [] at h5 ⊢
          rcases h5 with h5 | ⟨ha5, hlen, C, E, fz, hC, hcap⟩
          · exact .inl (by omega)
          · by_cases hcl : cap = l
            · exact .inl (by omega)
            · have hesz : esz = P.cellsOf e ∨ l = 0 := by
                rcases hc.2.2 with hz | hz
                · exact .inr (by omega)
                · exact .inl hz
              refine .inr ⟨?_, ?_, C, E, fz, hC, ?_⟩
              · rw [if_neg hcl, ha5]
                rcases hesz with hz | hz
                · simp [add_at, hz]
                · subst hz; simp [add_at]
              · have e1 : l * esz + (u - l) * esz = u * esz := by rw [← Nat.add_mul]; congr 1; omega
                have e2 : u * esz ≤ len * esz := Nat.mul_le_mul_right _ h3
                omega
              · have e1 : l * esz + (cap - l) * esz = cap * esz := by rw [← Nat.add_mul]; congr 1; omega
                omega
      · cases he
    · rename_i cs esz g hid
      split at he
      · rename_i hc
        simp only [Option.map_eq_some_iff] at he
        obtain ⟨⟨l, u⟩, hb, rfl⟩ := he
        simp only [AR] at ha ⊢
        obtain ⟨a, cap, rfl, hs⟩ := ha
        simp only [slOK, hid] at hs
        have h4 := hs.2 hc.1.symm
        obtain ⟨h1, h2, h3⟩ := bounds_ok (P := P) (w := w) true hb h4.1 k k'
        obtain ⟨j, hj⟩ := info_of_pos hc.2.1
        refine ⟨.slice (if cap = l then a else a.map (·.add (l * P.cellsOf e))) (u - l) (cap - l), by simp only [Instr.sliceAt, Instr.slice, Sem.run_bind, run_under hu]; simp [run_under hu, h1, run_size hj], _, _, rfl, ?_⟩
        simp only [slOK, hid]
        refine ⟨hs.1, fun hg => ⟨by omega, ?_⟩⟩
        have h5 := h4.2
        cases hρ : ρ id with
        | none => rw [hρ] at h5; simp only [] at h5 ⊢; omega
        | some b =>
          rw [hρ] at h5
          simp only [] at h5 ⊢
          rcases h5 with h5 | ⟨ha5, hlen, C, E, fz, hC, hcap⟩
          · exact .inl (by omega)
          · by_cases hcl : cap = l
            · exact .inl (by omega)
            · have hesz : esz = P.cellsOf e ∨ l = 0 := by
                rcases hc.2.2 with hz | hz
                · exact .inr (by omega)
                · exact .inl hz
              refine .inr ⟨?_, ?_, C, E, fz, hC, ?_⟩
              · rw [if_neg hcl, ha5]
                rcases hesz with hz | hz
                · simp [add_at, hz]
                · subst hz; simp [add_at]
              · have e1 : l * esz + (u - l) * esz = u * esz := by rw [← Nat.add_mul]; congr 1; omega
                have e2 : u * esz ≤ len * esz := Nat.mul_le_mul_right _ h3
                omega
              · have e1 : l * esz + (cap - l) * esz = cap * esz := by rw [← Nat.add_mul]; congr 1; omega
                omega
      · cases he
    · cases he
  · cases he

/-! ### numbers, strings -/

theorem guard_ok {op : BinOp} {t : TypeId} {x y : Operand} {a b : Value} (h1 : a ≠ .nilIface) (h2 : a.oneCell' = true) : (eqGuard op t x y a b).run P w = .ok () w := by
  cases op <;> cases a <;> first
    | (exact absurd rfl h1)
    | (simp [Value.oneCell'] at h2; done)
    | rfl

theorem pureV_ok {s : Sem Value} {x : A} (he : (pureV s).bind aScalar = some x) : ∃ u, s.run P w = .ok u w ∧ AR h ρ w I x u := by
  cases s with
  | pure v =>
    simp only [pureV, Option.bind_some] at he
    exact ⟨v, rfl, aScalar_ok he h ρ w I⟩
  | _ => simp [pureV] at he

theorem str_toList (s : List UInt8) : (⟨s.toArray⟩ : ByteArray).toList = s := ByteArray.toList_mk s

theorem bin_ok {op : BinOp} {t : TypeId} {xo yo : Operand} {a b x : A} {u v : Value} (he : aBin op a b = some x) (ha : AR h ρ w I a u) (hb : AR h ρ w I b v) :
    ∃ r, (do eqGuard op t xo yo u v; binOp op t u v : Sem Value).run P w = .ok r w ∧ AR h ρ w I x r := by
  unfold aBin at he
  split at he
  · -- shl
    simp only [AR, DR] at ha hb
    subst ha; subst hb
    obtain ⟨r, hr, hx⟩ := pureV_ok (P := P) (w := w) (h := h) (ρ := ρ) (I := I) he
    exact ⟨r, by simp only [Sem.run_bind, guard_ok (a := .int _ _) (by simp) rfl]; simpa [binOp] using hr, hx⟩
  · simp only [AR, DR] at ha hb
    subst ha; subst hb
    obtain ⟨r, hr, hx⟩ := pureV_ok (P := P) (w := w) (h := h) (ρ := ρ) (I := I) he
    exact ⟨r, by simp only [Sem.run_bind, guard_ok (a := .int _ _) (by simp) rfl]; simpa [binOp] using hr, hx⟩
  · rename_i k m k' n hn1 hn2
    simp only [AR, DR] at ha hb
    subst ha; subst hb
    split at he
    · cases he
    · rename_i hk
      have hk : k = k' := by simpa using hk
      subst hk
      have g := fun op => guard_ok (P := P) (w := w) (op := op) (t := t) (x := xo) (y := yo) (a := .int k m) (b := .int k n) (by simp) rfl
      have pv : ∀ (op : BinOp) (s : Sem Value), (pureV s).bind aScalar = some x → binOp op t (.int k m) (.int k n) = s →
          ∃ r, (do eqGuard op t xo yo (.int k m) (.int k n); binOp op t (.int k m) (.int k n) : Sem Value).run P w = .ok r w ∧ AR h ρ w I x r := by
        intro op s hs hb
        obtain ⟨r, hr, hx⟩ := pureV_ok (P := P) (w := w) (h := h) (ρ := ρ) (I := I) hs
        exact ⟨r, by simp only [Sem.run_bind, g, hb]; simpa using hr, hx⟩
      have bv : ∀ (op : BinOp) (c : Bool), some (A.d (.bool c)) = some x → binOp op t (.int k m) (.int k n) = pure (.bool c) →
          ∃ r, (do eqGuard op t xo yo (.int k m) (.int k n); binOp op t (.int k m) (.int k n) : Sem Value).run P w = .ok r w ∧ AR h ρ w I x r := by
        intro op c hs hb
        cases hs
        exact ⟨.bool c, by simp only [Sem.run_bind, g, hb]; rfl, by simp only [AR, DR]⟩
      split at he
      · exact pv _ _ he (by simp [binOp])
      · exact pv _ _ he (by simp [binOp])
      · exact pv _ _ he (by simp [binOp])
      · split at he
        · cases he
        · rename_i hz
          cases he
          exact ⟨.int k (k.wrap (m.tdiv n)), by simp only [Sem.run_bind, g]; simp [binOp, Op.intDiv, hz], by simp only [AR, DR]⟩
      · split at he
        · cases he
        · rename_i hz
          cases he
          exact ⟨.int k (m.tmod n), by simp only [Sem.run_bind, g]; simp [binOp, Op.intDiv, hz], by simp only [AR, DR]⟩
      · exact pv _ _ he (by simp [binOp])
      · exact pv _ _ he (by simp [binOp])
      · exact pv _ _ he (by simp [binOp])
      · exact pv _ _ he (by simp [binOp])
      · exact bv _ _ he (by simp [binOp, Op.intCmp])
      · exact bv _ _ he (by simp [binOp, Op.intCmp])
      · exact bv _ _ he (by simp [binOp, Op.intCmp])
      · exact bv _ _ he (by simp [binOp, Op.intCmp])
      · exact bv _ _ he (by simp [binOp, Op.intCmp])
      · exact bv _ _ he (by simp [binOp, Op.intCmp])
      · cases he
  · rename_i a b
    simp only [AR, DR] at ha hb
    subst ha; subst hb
    have g := fun op => guard_ok (P := P) (w := w) (op := op) (t := t) (x := xo) (y := yo) (a := .string ⟨a.toArray⟩) (b := .string ⟨b.toArray⟩) (by simp) rfl
    have bv : ∀ (op : BinOp) (c : Bool), some (A.d (.bool c)) = some x → binOp op t (.string ⟨a.toArray⟩) (.string ⟨b.toArray⟩) = pure (.bool c) →
        ∃ r, (do eqGuard op t xo yo (.string ⟨a.toArray⟩) (.string ⟨b.toArray⟩); binOp op t (.string ⟨a.toArray⟩) (.string ⟨b.toArray⟩) : Sem Value).run P w = .ok r w ∧ AR h ρ w I x r := by
      intro op c hs hb
      cases hs
      exact ⟨.bool c, by simp only [Sem.run_bind, g, hb]; rfl, by simp only [AR, DR]⟩
    split at he
    · split at he
      · rename_i hle
        cases he
        refine ⟨.string (⟨a.toArray⟩ ++ ⟨b.toArray⟩), ?_, ?_⟩
        · have hsz : ¬ ((((⟨a.toArray⟩ : ByteArray).size + (⟨b.toArray⟩ : ByteArray).size : Nat) : Int) > IntKind.i64.max) := by
            have : (⟨a.toArray⟩ : ByteArray).size + (⟨b.toArray⟩ : ByteArray).size = a.length + b.length := by simp [ByteArray.size]
            rw [this]
            unfold maxNeed at hle
            simp only [IntKind.max, IntKind.signed, IntKind.bits, if_true]
            omega
          have hb : binOp .add t (.string ⟨a.toArray⟩) (.string ⟨b.toArray⟩) = pure (.string (⟨a.toArray⟩ ++ ⟨b.toArray⟩)) := by
            simp only [binOp, Op.stringOp, if_neg hsz]
          simp only [Sem.run_bind, g, hb]
          rfl
        · simp only [AR, DR]
          congr 1
      · cases he
    · exact bv _ _ he (by simp only [binOp, Op.stringOp, str_toList])
    · exact bv _ _ he (by simp only [binOp, Op.stringOp, str_toList])
    · exact bv _ _ he (by simp only [binOp, Op.stringOp, str_toList])
    · exact bv _ _ he (by simp only [binOp, Op.stringOp, str_toList])
    · exact bv _ _ he (by simp only [binOp, Op.stringOp, str_toList])
    · exact bv _ _ he (by simp only [binOp, Op.stringOp, str_toList])
    · cases he
  · cases he

theorem equal_run {t : TypeId} {a b : Value} {c : Bool} {op : BinOp} {x : A} (hq : ∀ w, (Op.equal t a b).run P w = .ok c w) (hb : ∀ op, op = .eql ∨ op = .neq → binOp op t a b = (match op with | .eql => do pure (.bool (← Op.equal t a b)) | _ => do pure (.bool (!(← Op.equal t a b))) : Sem Value))
    (he : eqlA op c = some x) : ∃ r, (binOp op t a b).run P w = .ok r w ∧ AR h ρ w I x r := by
  unfold eqlA at he
  split at he
  · cases he
    exact ⟨.bool c, by rw [hb _ (.inl rfl)]; simp [hq], by simp only [AR, DR]⟩
  · cases he
    exact ⟨.bool (!c), by rw [hb _ (.inr rfl)]; simp [hq], by simp only [AR, DR]⟩
  · cases he

theorem nil_ok {op : BinOp} {t : TypeId} {xo yo : Operand} {a b x : A} {u v : Value} (he : aNil P op t a b = some x) (ha : AR h ρ w I a u) (hb : AR h ρ w I b v) :
    ∃ r, (do eqGuard op t xo yo u v; binOp op t u v : Sem Value).run P w = .ok r w ∧ AR h ρ w I x r := by
  have g : ∀ (a b : Value), a ≠ .nilIface → a.oneCell' = true → ∀ x : A, (∃ r, (binOp op t a b).run P w = .ok r w ∧ AR h ρ w I x r) → ∃ r, (do eqGuard op t xo yo a b; binOp op t a b : Sem Value).run P w = .ok r w ∧ AR h ρ w I x r :=
    fun a b h1 h2 x ⟨r, hr, hx⟩ => ⟨r, by simp only [Sem.run_bind, guard_ok (op := op) (t := t) (x := xo) (y := yo) (b := b) h1 h2]; simpa using hr, hx⟩
  unfold aNil at he
  split at he
  · rename_i a b hu
    simp only [AR, DR] at ha hb
    subst ha; subst hb
    refine g _ _ (by simp) rfl x (equal_run (fun w => ?_) (fun op ho => ?_) he)
    · show (Op.equalIn (9999 + 1) t _ _).run P w = _
      generalize 9999 = d
      simp only [Op.equalIn, Sem.run_bind, run_under hu]
      rfl
    · rcases ho with rfl | rfl <;> rfl
  · rename_i e hu
    simp only [AR, DR] at ha hb
    subst ha; subst hb
    refine g _ _ (by simp) rfl x (equal_run (fun w => ?_) (fun op ho => ?_) he)
    · show (Op.equalIn (9999 + 1) t _ _).run P w = _
      generalize 9999 = d
      simp only [Op.equalIn, Sem.run_bind, run_under hu]
      rfl
    · rcases ho with rfl | rfl <;> rfl
  · rename_i e cs hu
    simp only [AR, DR] at ha hb
    obtain ⟨b, o, rfl, _⟩ := hb
    subst ha
    refine g _ _ (by simp) rfl x (equal_run (fun w => ?_) (fun op ho => ?_) he)
    · show (Op.equalIn (9999 + 1) t _ _).run P w = _
      generalize 9999 = d
      simp only [Op.equalIn, Sem.run_bind, run_under hu]
      rfl
    · rcases ho with rfl | rfl <;> rfl
  · rename_i e cs hu
    simp only [AR, DR] at ha hb
    obtain ⟨b, o, rfl, _⟩ := ha
    subst hb
    refine g _ _ (by simp) rfl x (equal_run (fun w => ?_) (fun op ho => ?_) he)
    · show (Op.equalIn (9999 + 1) t _ _).run P w = _
      generalize 9999 = d
      simp only [Op.equalIn, Sem.run_bind, run_under hu]
      rfl
    · rcases ho with rfl | rfl <;> rfl
  · rename_i ms t' y hu
    simp only [AR, DR] at ha hb
    obtain ⟨u', rfl, _⟩ := ha
    subst hb
    refine g _ _ (by simp) rfl x (equal_run (fun w => ?_) (fun op ho => ?_) he)
    · show (Op.equalIn (9999 + 1) t _ _).run P w = _
      generalize 9999 = d
      simp only [Op.equalIn, Sem.run_bind, run_under hu]
      rfl
    · rcases ho with rfl | rfl <;> rfl
  · cases he

/-- Structs of so many ints are compared number by number. -/
def EqsOK (P : Program) (eqs : List (TypeId × Nat)) : Prop := ∀ t n, eqs.contains (t, n) = true → ∀ (as bs : List Int), as.length = n → bs.length = n → ∀ w,
  (Op.equal t (.agg (as.map (Value.int .i64)).toArray) (.agg (bs.map (Value.int .i64)).toArray)).run P w = .ok (as == bs) w ∧
  ∀ op x y, (eqGuard op t x y (.agg (as.map (Value.int .i64)).toArray) (.agg (bs.map (Value.int .i64)).toArray)).run P w = .ok () w

theorem ints_ok : ∀ {xs : List A} {as : List Int} {vs : List Value}, intsA xs = some as → ARv h ρ w I xs vs → vs = as.map (Value.int .i64)
  | [], as, vs, he, hv => by
    simp only [intsA, Option.some.injEq] at he; subst he
    simp only [ARv] at hv; subst hv; rfl
  | x :: xs, as, vs, he, hv => by
    simp only [ARv] at hv
    obtain ⟨v, rest, rfl, hx, hr⟩ := hv
    unfold intsA at he
    split at he
    · rename_i h0; cases h0
    · rename_i n xs' h0
      cases h0
      simp only [Option.map_eq_some_iff] at he
      obtain ⟨as', has, rfl⟩ := he
      simp only [AR, DR] at hx
      rw [hx, ints_ok has hr]; rfl
    · cases he

theorem eqAgg_ok {eqs : List (TypeId × Nat)} (hq : EqsOK P eqs) {op : BinOp} {t : TypeId} {xo yo : Operand} {a b x : A} {u v : Value} (he : aEqAgg eqs op t a b = some x) (ha : AR h ρ w I a u) (hb : AR h ρ w I b v) :
    ∃ r, (do eqGuard op t xo yo u v; binOp op t u v : Sem Value).run P w = .ok r w ∧ AR h ρ w I x r := by
  unfold aEqAgg at he
  split at he
  · rename_i xs ys
    split at he
    · rename_i as bs h1 h2
      split at he
      · rename_i hc
        simp only [AR] at ha hb
        obtain ⟨C, rfl, hC⟩ := ha
        obtain ⟨D, rfl, hD⟩ := hb
        have e1 := ints_ok h1 hC
        have e2 := ints_ok h2 hD
        have e1' : C = (as.map (Value.int .i64)).toArray := by rw [← e1]
        have e2' : D = (bs.map (Value.int .i64)).toArray := by rw [← e2]
        subst e1'; subst e2'
        have q := fun w => hq t as.length hc.1 as bs rfl hc.2.symm w
        obtain ⟨r, hr, hx⟩ := equal_run (P := P) (w := w) (h := h) (ρ := ρ) (I := I) (fun w => (q w).1) (fun op ho => by rcases ho with rfl | rfl <;> rfl) he
        exact ⟨r, by simp only [Sem.run_bind, (q w).2]; simpa using hr, hx⟩
      · cases he
    · cases he
  · cases he

theorem un_ok {op : UnOp} {a x : A} {v : Value} (he : aUn op a = some x) (ha : AR h ρ w I a v) : ∃ r, (Op.unary op v).run P w = .ok r w ∧ AR h ρ w I x r := by
  unfold aUn at he
  split at he
  · simp only [AR, DR] at ha; subst ha
    exact pureV_ok he
  · simp only [AR, DR] at ha; subst ha
    exact pureV_ok he
  · simp only [AR, DR] at ha; subst ha
    cases he
    exact ⟨_, rfl, by simp only [AR, DR]⟩
  · cases he

theorem len_ok {t ty : TypeId} {a x : A} {v : Value} {ts : Array TypeId} (ht : ts[0]? = some t) (he : aLen P t a = some x) (ha : AR h ρ w I a v) : ∃ r, (Builtin.len_ ts ty #[v]).run P w = .ok r w ∧ AR h ρ w I x r := by
  unfold aLen at he
  split at he
  · rename_i s hu
    simp only [AR, DR] at ha; subst ha; cases he
    have e : (⟨s.toArray⟩ : ByteArray).size = s.length := by simp [ByteArray.size]
    exact ⟨.int .i64 s.length, by simp [Builtin.len_, ht, run_under hu, goInt, e], by simp only [AR, DR]⟩
  · rename_i n e hu
    cases he
    exact ⟨.int .i64 n, by simp [Builtin.len_, ht, run_under hu, goInt], by simp only [AR, DR]⟩
  · rename_i e hu
    simp only [AR, DR] at ha; obtain ⟨a, rfl⟩ := ha; cases he
    exact ⟨.int .i64 0, by simp [Builtin.len_, ht, run_under hu, goInt], by simp only [AR, DR]⟩
  · rename_i e n cs hu
    simp only [AR, DR] at ha; obtain ⟨a, cap, rfl, _⟩ := ha; cases he
    exact ⟨.int .i64 n, by simp [Builtin.len_, ht, run_under hu, goInt], by simp only [AR, DR]⟩
  · rename_i e id g o n hu
    simp only [AR] at ha; obtain ⟨a, cap, rfl, _⟩ := ha; cases he
    exact ⟨.int .i64 n, by simp [Builtin.len_, ht, run_under hu, goInt], by simp only [AR, DR]⟩
  · cases he

end

end Ev
end Go.Proofs.Ytidobgmklcbcpaa
