/-
  Made slices, appends, conversions between strings and bytes.
-/
import Derived.Test.YtidobgmklcbcpaaEvOps4
namespace Go.Proofs.Ytidobgmklcbcpaa
namespace Ev

section
variable {P : Program} {h : H} {ρ : Rho} {w : World} {I : Nat → Prop}

theorem dataOf_ok : ∀ {cs : List A} {ds : List D} {vs : List Value}, dataOf cs = some ds → ARv h ρ w I cs vs → DRv w I ds vs
  | [], ds, vs, he, ha => by
    simp only [dataOf, Option.some.injEq] at he; subst he
    simp only [ARv] at ha; simp only [DRv]; exact ha
  | c :: cs, ds, vs, he, ha => by
    simp only [ARv] at ha
    obtain ⟨v, rest, rfl, h1, h2⟩ := ha
    unfold dataOf at he
    split at he
    · rename_i h0; cases h0
    · rename_i x cs' h0
      cases h0
      simp only [Option.map_eq_some_iff] at he
      obtain ⟨ds', hds, rfl⟩ := he
      simp only [AR] at h1
      simp only [DRv]
      exact ⟨v, rest, rfl, h1, dataOf_ok hds h2⟩
    · cases he

theorem DRv_append {as bs : List D} {vs us : List Value} (ha : DRv w I as vs) (hb : DRv w I bs us) : DRv w I (as ++ bs) (vs ++ us) := by
  induction as generalizing vs with
  | nil => simp only [DRv] at ha; subst ha; simpa using hb
  | cons a as ih =>
    simp only [DRv] at ha
    obtain ⟨v, rest, rfl, h1, h2⟩ := ha
    simp only [List.cons_append, DRv]
    exact ⟨v, rest ++ us, rfl, h1, ih h2⟩

theorem DRv_flat {zs : List D} {vs : List Value} (hz : DRv w I zs vs) : ∀ n, DRv w I (List.replicate n zs).flatten (List.replicate n vs).flatten
  | 0 => by simp [DRv]
  | n + 1 => by
    simp only [List.replicate_succ, List.flatten_cons]
    exact DRv_append hz (DRv_flat hz n)

theorem wrap_i64 {n : Int} (h0 : 0 ≤ n) (h1 : n ≤ maxNeed) : IntKind.i64.wrap n = n := by
  unfold maxNeed at h1
  simp [IntKind.wrap, IntKind.bits, IntKind.signed]
  omega

theorem makeSlice_ok {t : TypeId} {k k' : IntKind} {l c : Int} {x : A} {h' : H} (he : aMakeSlice P h t l c = some (x, h')) (r : Rel h ρ w I) :
    ∃ u ρ' w', (Instr.makeSlice t (.int k l) (.int k' c)).run P w = .ok u w' ∧ Step h ρ w I h' ρ' w' I ∧ AR h' ρ' w' I x u := by
  unfold aMakeSlice at he
  split at he
  · rename_i e hel
    have hu := elemT_under hel
    split at he
    · rename_i z hz
      split at he
      · rename_i zs hzs
        split at he
        · rename_i hc
          cases he
          obtain ⟨hel2, h0, hlc, hcm⟩ := hc
          obtain ⟨i, z', zv, hi, hz', hzv, hrun, hzr, hsz, hzl, hok, hpos, hb0, hb1, hone⟩ := elem_ok hel2
          rw [hz] at hz'; cases hz'
          have hbytes : i.bytes = P.bytesOf e := by simp [Program.bytesOf, hi]
          obtain ⟨l', rfl⟩ := Int.eq_ofNat_of_zero_le h0
          obtain ⟨c', rfl⟩ := Int.eq_ofNat_of_zero_le (Int.le_trans h0 hlc)
          have hlc' : l' ≤ c' := by omega
          have hcm' : c' ≤ maxNeed := by omega
          have wl : IntKind.i64.wrap (l' : Int) = l' := wrap_i64 (by omega) (by omega)
          have wc : IntKind.i64.wrap (c' : Int) = c' := wrap_i64 (by omega) (by omega)
          have hd := fun w I => dataOf_ok (h := []) (ρ := fun _ => none) (w := w) (I := I) hzs (hzr _ _ w I)
          have hzsl : zs.length = P.cellsOf e := by rw [((DRv_iff _ _).1 (hd w I)).1]; simpa using hsz
          have small : ∀ n : Nat, n ≤ maxNeed → ¬ ((P.bytesOf e : Int) * n > 2 ^ 48) := by
            intro n hn
            have h1 : P.bytesOf e * n ≤ 1024 * maxNeed := Nat.mul_le_mul hb1 hn
            have h2 : (1024 * maxNeed : Nat) ≤ 2 ^ 48 := by unfold maxNeed; omega
            have h3 : ((P.bytesOf e * n : Nat) : Int) ≤ ((2 ^ 48 : Nat) : Int) := by exact_mod_cast Nat.le_trans h1 h2
            rw [Int.natCast_mul] at h3
            have h4 : ((2 ^ 48 : Nat) : Int) = 2 ^ 48 := by norm_cast
            omega
          have hcells : ((Array.range (c' * P.cellsOf e)).map fun j => zv.cells[j % zv.cells.size]!).toList = (List.replicate c' zv.cells.toList).flatten := by
            rw [Array.toList_map, Array.toList_range, ← range_flat]
            simp [hsz]
          let C : Array Value := (Array.range (c' * P.cellsOf e)).map fun j => zv.cells[j % zv.cells.size]!
          have g := Grew.push w (.cells C e (0, 0))
          have hnew : ({ w with heap := w.heap.push (.cells C e (0, 0)) } : World).heap[w.heap.size]? = some (.cells C e (0, 0)) := by simp
          have hCsz : C.size = c' * P.cellsOf e := by simp [C]
          have hsplit : C.toList = (List.replicate l' zv.cells.toList).flatten ++ (List.replicate (c' - l') zv.cells.toList).flatten := by
            show ((Array.range (c' * P.cellsOf e)).map fun j => zv.cells[j % zv.cells.size]!).toList = _
            rw [hcells, ← List.flatten_append, List.replicate_append_replicate]
            congr 2; omega
          have s2 := step_push r g (.arr (List.replicate l' zs).flatten (P.cellsOf e) 0) (some w.heap.size) (fun b hb => by cases hb; exact Nat.le_refl _) (fun ext => by
            simp only [OR, upd_same]
            refine ⟨hpos, fun hI => by have := r.imm _ hI; omega, C, e, (0, 0), hnew, unfrozen_zero _, DRs_push hnew hsplit (DRv_flat (hd _ _) l') (fun u hu => ?_)⟩
            obtain ⟨l1, hl1, hu1⟩ := List.mem_flatten.1 hu
            rw [(List.mem_replicate.1 hl1).2] at hu1
            exact hone u hu1)
          refine ⟨.slice (some ⟨w.heap.size, 0, none⟩) l' c', _, _, ?_, s2, ?_⟩
          · have nc := small c' hcm'
            rw [← hbytes] at nc
            have l0 : ¬ ((l' : Int) < 0) := by omega
            have c0 : ¬ ((c' : Int) < 0) := by omega
            have nc' : ¬ ((281474976710656 : Int) < (i.bytes : Int) * c') := by omega
            rcases Nat.eq_zero_or_pos c' with hz0 | hz0
            · subst hz0
              have hl0 : l' = 0 := by omega
              subst hl0
              simp [Instr.makeSlice, run_under hu, asInt, asIntOf, run_info hi, show IntKind.i64.wrap 0 = 0 from by decide, run_size hi, show Array.range 0 = #[] from rfl, newRow, newObj, Sem.run, C]
            · have hne : ¬ (c' * P.cellsOf e = 0) := by have := Nat.mul_pos hz0 hpos; omega
              have hll : ¬ ((c' : Int) < l') := by omega
              simp [Instr.makeSlice, run_under hu, asInt, asIntOf, run_info hi, wl, wc, nc', hll, l0, c0, run_size hi, hne, hrun, newRow, newObj, Sem.run, C]
          · simp only [AR, Int.toNat_natCast]
            refine ⟨_, _, rfl, ?_⟩
            have e1 : (h ++ [O.arr (List.replicate l' zs).flatten (P.cellsOf e) 0])[h.length]? = some (.arr (List.replicate l' zs).flatten (P.cellsOf e) 0) := by simp
            have hdl : (List.replicate l' zs).flatten.length = l' * P.cellsOf e := by simp [hzsl]
            simp only [slOK, e1, upd_same]
            exact ⟨Nat.le_refl _, fun _ => ⟨hlc', .inr ⟨trivial, by omega, C, e, (0, 0), hnew, by omega⟩⟩⟩
        · cases he
      · cases he
    · cases he
  · cases he

/-! ### reading a slice -/

/-- What the machine reads where the evaluator reads a slice. -/
theorem slice_read {esz : Nat} {x : A} {xv : Value} {n : Nat} {ds : List D} (he : sliceCells h esz x = some (n, ds)) (r : Rel h ρ w I) (hx : AR h ρ w I x xv) :
    (∀ w', (Builtin.lenOf xv).run P w' = .ok n w') ∧ ds.length = n * esz ∧ ∃ vs, DRv w I ds vs ∧ (∀ u ∈ vs, u.oneCell' = true) ∧ ∀ w' : World, w'.heap = w.heap → (Builtin.firstCells esz n xv).run P w' = .ok vs.toArray w' := by
  have mem : ∀ (cs : List D) (b o cap : Nat), DRs w I cs b o → cs.length = n * esz → xv = .slice (some ⟨b, o, none⟩) n cap → ds = cs →
      (∀ w', (Builtin.lenOf xv).run P w' = .ok n w') ∧ ds.length = n * esz ∧ ∃ vs, DRv w I ds vs ∧ (∀ u ∈ vs, u.oneCell' = true) ∧ ∀ w' : World, w'.heap = w.heap → (Builtin.firstCells esz n xv).run P w' = .ok vs.toArray w' := by
    intro cs b o cap hd hl hxv hds
    subst hxv; subst hds
    obtain ⟨vs, h1, h2⟩ := ARs_vals (h := h) (ρ := ρ) (w := w) (I := I) (b := b) (ds.map .d) o (fun k c hk => by
      rw [List.getElem?_map] at hk
      cases hk' : ds[k]? with
      | none => rw [hk'] at hk; cases hk
      | some d =>
        rw [hk'] at hk; simp at hk; subst hk
        obtain ⟨u, hu, hdu, ho⟩ := (DRs_iff _ _ _).1 hd k d hk'
        exact ⟨u, hu, by simp only [AR]; exact hdu, ho⟩)
    rw [ARv_map_d] at h1
    have hvl : vs.length = n * esz := by rw [← ((DRv_iff _ _).1 h1).1, hl]
    refine ⟨fun w' => rfl, hl, vs, h1, fun u hu => ?_, fun w' hw' => ?_⟩
    · obtain ⟨k, hk⟩ := List.mem_iff_getElem?.1 hu
      exact (h2 k u hk).2
    · have := run_loadCells' (P := P) (w := w') (b := b) (o := o) vs (fun k v hk => (cellAt_same (w := w) (w' := w') (by rw [hw'])).trans (h2 k v hk).1)
      rw [hvl] at this
      simpa [Builtin.firstCells] using this
  have nothing : ∀ (a : Option Addr) (cap : Nat), xv = .slice a 0 cap → n = 0 → ds = [] →
      (∀ w', (Builtin.lenOf xv).run P w' = .ok n w') ∧ ds.length = n * esz ∧ ∃ vs, DRv w I ds vs ∧ (∀ u ∈ vs, u.oneCell' = true) ∧ ∀ w' : World, w'.heap = w.heap → (Builtin.firstCells esz n xv).run P w' = .ok vs.toArray w' := by
    intro a cap hxv hn hds
    subst hxv; subst hn; subst hds
    refine ⟨fun w' => rfl, by simp, [], by simp only [DRv], by simp, fun w' _ => ?_⟩
    cases a <;> simp [Builtin.firstCells, loadCells, loadCellsFrom]
  unfold sliceCells at he
  split at he
  · cases he
    simp only [AR, DR] at hx
    obtain ⟨a, rfl⟩ := hx
    exact nothing a 0 rfl rfl rfl
  · rename_i m cs
    split at he
    · rename_i hl
      cases he
      simp only [AR, DR] at hx
      obtain ⟨a, cap, rfl, hcap, hc⟩ := hx
      rcases hc with rfl | ⟨b, o, rfl, hI, hd⟩
      · cases a with
        | none =>
          refine ⟨fun w' => rfl, hl, [], by simp only [DRv], by simp, fun w' _ => by simp [Builtin.firstCells]⟩
        | some a =>
          have h0 : n * esz = 0 := by simpa using hl.symm
          exact ⟨fun w' => rfl, hl, [], by simp only [DRv], by simp, fun w' _ => by simp [Builtin.firstCells, h0, loadCells, loadCellsFrom]⟩
      · exact mem ds b o cap hd hl rfl rfl
    · cases he
  · rename_i s
    split at he
    · rename_i h1
      cases he
      subst h1
      simp only [AR, DR] at hx
      subst hx
      refine ⟨fun w' => by simp [Builtin.lenOf, ByteArray.size], by simp, s.map fun b => .int .u8 b.toNat, ?_, ?_, fun w' _ => ?_⟩
      · rw [DRv_iff]
        refine ⟨by simp, fun k d hk => ?_⟩
        rw [List.getElem?_map] at hk ⊢
        cases hs : s[k]? with
        | none => rw [hs] at hk; cases hk
        | some b => rw [hs] at hk; simp at hk; subst hk; exact ⟨_, rfl, by simp only [DR]⟩
      · intro u hu
        obtain ⟨b, _, rfl⟩ := List.mem_map.1 hu
        rfl
      · simp [Builtin.firstCells]
    · cases he
  · rename_i id gen off len
    simp only [AR] at hx
    obtain ⟨a, cap, rfl, hs⟩ := hx
    cases hid : h[id]? with
    | none => rw [hid] at he; cases he
    | some o =>
      rw [hid] at he
      cases o with
      | box cs => cases he
      | vec cs e g => cases he
      | void => cases he
      | arr cs e g =>
        simp only [] at he
        split at he
        · rename_i hc
          cases he
          simp only [slOK, hid] at hs
          have h3 := hs.2 hc.1.symm
          rcases Nat.eq_zero_or_pos n with h0 | h0
          · subst h0; exact nothing a cap rfl rfl (by simp)
          · have hO := r.obj id _ hid
            simp only [OR] at hO
            cases hρ : ρ id with
            | none => rw [hρ] at h3; have := h3.1; have := h3.2; simp only [] at this; omega
            | some b =>
              rw [hρ] at hO h3
              obtain ⟨_, _, C, E, fz, _, _, hd⟩ := hO
              rcases h3.2 with h4 | ⟨h4, _⟩
              · have := h3.1; omega
              · subst h4
                exact mem _ b off cap (by have := DRs_take (n * esz) (DRs_drop off hd); simpa using this) (by simp; have := hc.2.2; omega) rfl rfl
        · cases he
      | ice cs e g =>
        simp only [] at he
        split at he
        · rename_i hc
          cases he
          simp only [slOK, hid] at hs
          have h3 := hs.2 hc.1.symm
          rcases h3.2 with h0 | ⟨_, b, hb, hI, hd⟩
          · subst h0; exact nothing a cap rfl rfl (by simp)
          · subst hb
            exact mem _ b off cap (by have := DRs_take (n * esz) (DRs_drop off hd); simpa using this) (by simp; have := hc.2.2; omega) rfl rfl
        · cases he
  · cases he

/-! ### append -/

theorem growBy_le (need : Nat) : ∀ (r c : Nat), Builtin.growBy need r c ≤ max c (2 * need + 192)
  | 0, c => by simp only [Builtin.growBy]; omega
  | r + 1, c => by
    simp only [Builtin.growBy]
    split
    · omega
    · have := growBy_le need r (c + (c + 768) / 4)
      omega

theorem next_le {need cap : Nat} (h : cap < need) : Builtin.nextslicecap need cap ≤ 2 * need + 512 := by
  unfold Builtin.nextslicecap
  split
  · omega
  · split
    · omega
    · have := growBy_le need 4 cap
      omega

theorem zeroCells_toList (z : Array Value) (n : Nat) : (Builtin.zeroCells z n).toList = (List.replicate n z.toList).flatten := by
  unfold Builtin.zeroCells
  rw [Array.toList_map, Array.toList_range, ← range_flat]
  simp

/-- The slice is long enough: it is written in place. -/
theorem run_append_room {t u e : TypeId} {ty : TypeId} {xv : Value} {n : Nat} {vs : List Value} {base : Option Addr} {sLen sCap : Nat} {i : TypeInfo} {d : TypeDesc}
    (hu : P.underlying t = some (.slice e)) (hi : P.info? e = some i) (hd : P.underlying u = some d) (hnd : ∀ k, d ≠ .int k) (hx : ∀ w', (Builtin.lenOf xv).run P w' = .ok n w') (hf : (Builtin.firstCells (P.cellsOf e) n xv).run P w = .ok vs.toArray w)
    (hroom : sLen + n ≤ sCap) {w' : World} (hst : ∀ a, base = some a → (storeCells (a.add (sLen * P.cellsOf e)) vs).run P w = .ok () w') (hno : base = none → w' = w) :
    (Builtin.append_ #[t, u] ty #[.slice base sLen sCap, xv]).run P w = .ok (.slice base (sLen + n) sCap) w' := by
  cases base with
  | none =>
    have := hno rfl; subst this
    simp [Builtin.append_, run_under hu, run_size hi, run_under hd, hx, hroom, hf]
  | some a =>
    have := hst a rfl
    simp [Builtin.append_, run_under hu, run_size hi, run_under hd, hx, hroom, hf, this]

/-- It is not: a new row is laid. -/
theorem run_append_grow {t u e : TypeId} {ty : TypeId} {xv : Value} {n : Nat} {vs old : List Value} {base : Option Addr} {sLen sCap : Nat} {i : TypeInfo} {d : TypeDesc} {zv : Value}
    (hu : P.underlying t = some (.slice e)) (hi : P.info? e = some i) (hd : P.underlying u = some d) (hnd : ∀ k, d ≠ .int k) (hx : ∀ w', (Builtin.lenOf xv).run P w' = .ok n w')
    (hf : ∀ w' : World, w'.heap = w.heap → (Builtin.firstCells (P.cellsOf e) n xv).run P w' = .ok vs.toArray w') (ho : ∀ w' : World, w'.heap = w.heap → (Builtin.firstCells (P.cellsOf e) sLen (.slice base sLen sCap)).run P w' = .ok old.toArray w')
    (hz : ∀ w', (zeroValue e).run P w' = .ok zv w') (hb0 : 0 < P.bytesOf e) (hb : P.bytesOf e ≤ 1024) (hroom : ¬ sLen + n ≤ sCap) (hneed : sLen + n ≤ maxNeed) :
    ∃ cap, sLen + n ≤ cap ∧ (Builtin.append_ #[t, u] ty #[.slice base sLen sCap, xv]).run P w =
      .ok (.slice (some ⟨w.heap.size, 0, none⟩) (sLen + n) cap) (w.drew.alloc (.cells (old.toArray ++ (vs.toArray ++ Builtin.zeroCells zv.cells (cap - (sLen + n)))) e)) := by
  have hbytes : i.bytes = P.bytesOf e := by simp [Program.bytesOf, hi]
  let cap := (Question.appendCap (sLen + n) sCap e).cut (w.tape w.drawn (.appendCap (sLen + n) sCap e))
  have hcap : sLen + n ≤ cap := by simp [cap, Question.cut]
  refine ⟨cap, hcap, ?_⟩
  have h1 : ¬ (((sLen + n : Nat) : Int) > IntKind.i64.max ∧ (false = true ∨ i.bytes = 0)) := by rintro ⟨_, h | h⟩ <;> first | cases h | omega
  have h2 : ¬ (Builtin.nextslicecap (sLen + n) sCap * i.bytes > 2 ^ 48) := by
    have a1 := next_le (need := sLen + n) (cap := sCap) (by omega)
    have a2 : Builtin.nextslicecap (sLen + n) sCap * i.bytes ≤ (2 * maxNeed + 512) * 1024 := Nat.mul_le_mul (by omega) (by omega)
    unfold maxNeed at a2
    omega
  have ho' := ho w.drew rfl
  have hf' := hf w.drew rfl
  have h1' : ¬ ((9223372036854775807 : Int) < (sLen : Int) + n ∧ i.bytes = 0) := by rintro ⟨_, h⟩; omega
  simp [Builtin.append_, run_under hu, run_size hi, run_under hd, hx, hroom, run_info hi, h1', h2, Question.forced, ho', hf', hz, newRow, newObj, Sem.run, cap]

theorem Grew.drewAlloc (w : World) (o : Obj) : Grew w (w.drew.alloc o) := (Grew.drew w).trans (Grew.push _ o)

theorem drewAlloc_new (w : World) (o : Obj) : (w.drew.alloc o).heap[w.heap.size]? = some o := by
  show (w.heap.push o)[w.heap.size]? = some o
  simp

theorem append0_ok {t u : TypeId} {ty : TypeId} {s x y : A} {sv xv : Value} {h' : H} {d : TypeDesc} (hd : P.underlying u = some d) (hnd : ∀ k, d ≠ .int k) (he : aAppend0 P h t s x = some (y, h')) (r : Rel h ρ w I) (hs : AR h ρ w I s sv) (hx : AR h ρ w I x xv) :
    ∃ v ρ' w', (Builtin.append_ #[t, u] ty #[sv, xv]).run P w = .ok v w' ∧ Step h ρ w I h' ρ' w' I ∧ AR h' ρ' w' I y v := by
  unfold aAppend0 at he
  split at he
  · rename_i e hel
    have hu := elemT_under hel
    split at he
    · rename_i hok
      obtain ⟨i, z, zv, hi, hz, hzv, hrun, hzr, hsz, hzl, _, hpos, hb0, hb1, hone⟩ := elem_ok hok
      split at he
      · rename_i n src hsrc
        obtain ⟨hlen, hsl, vs, hdv, hvone, hfirst⟩ := slice_read (P := P) hsrc r hx
        have hvl : vs.length = n * P.cellsOf e := by rw [← ((DRv_iff _ _).1 hdv).1, hsl]
        split at he
        · -- a nil slice
          split at he
          · rename_i hn
            cases he
            simp only [AR, DR] at hs
            obtain ⟨a, rfl⟩ := hs
            rcases Nat.eq_zero_or_pos n with h0 | h0
            · subst h0
              have hv0 : vs = [] := List.length_eq_zero_iff.1 (by omega)
              have hs0 : src = [] := List.length_eq_zero_iff.1 (by omega)
              subst hv0; subst hs0
              have s1 := step_push r (Grew.refl w) (.arr [] (P.cellsOf e) 0) none (by simp) (fun _ => by simp [OR, upd_same])
              refine ⟨_, _, w, run_append_room (base := a) (sLen := 0) (sCap := 0) hu hi hd hnd hlen (hfirst w rfl) (Nat.le_refl _) (fun b _ => by simp [storeCells]) (fun _ => rfl), s1, ?_⟩
              simp only [AR]
              refine ⟨a, 0, rfl, ?_⟩
              have e1 : (h ++ [O.arr [] (P.cellsOf e) 0])[h.length]? = some (.arr [] (P.cellsOf e) 0) := by simp
              simp only [slOK, e1, upd_same]
              simp
            · obtain ⟨cap, hcap, hrun2⟩ := run_append_grow (P := P) (ty := ty) (base := a) (sLen := 0) (sCap := 0) (old := []) hu hi hd hnd hlen hfirst (fun w' _ => by cases a <;> simp [Builtin.firstCells, loadCells, loadCellsFrom]) hrun hb0 hb1 (by omega) (by omega)
              have hC : (((#[] : Array Value) ++ (vs.toArray ++ Builtin.zeroCells zv.cells (cap - (0 + n))))).toList = vs ++ (Builtin.zeroCells zv.cells (cap - (0 + n))).toList := by simp
              have hCs : ((#[] : Array Value) ++ (vs.toArray ++ Builtin.zeroCells zv.cells (cap - (0 + n)))).size = cap * P.cellsOf e := by
                rw [← Array.length_toList, hC, List.length_append, zeroCells_toList, hvl]
                simp [hsz]
                rw [← Nat.add_mul]; congr 1; omega
              have s1 := step_push r (Grew.drewAlloc w _) (.arr src (P.cellsOf e) 0) (some w.heap.size) (fun b hb => by cases hb; exact Nat.le_refl _) (fun ext => by
                simp only [OR, upd_same]
                exact ⟨hpos, fun hI => by have := r.imm _ hI; omega, _, e, (0, 0), drewAlloc_new w _, unfrozen_zero _, DRs_push (drewAlloc_new w _) hC (DRv_mono ext.imm _ _ hdv) hvone⟩)
              refine ⟨_, _, _, hrun2, s1, ?_⟩
              simp only [AR]
              refine ⟨some ⟨w.heap.size, 0, none⟩, cap, by simp, ?_⟩
              have e1 : (h ++ [O.arr src (P.cellsOf e) 0])[h.length]? = some (.arr src (P.cellsOf e) 0) := by simp
              simp only [slOK, e1, upd_same]
              exact ⟨Nat.le_refl _, fun _ => ⟨by omega, .inr ⟨trivial, by omega, _, e, (0, 0), drewAlloc_new w _, by rw [Nat.zero_add]; exact Nat.le_of_eq hCs.symm⟩⟩⟩
          · cases he
        · rename_i id gen off len
          split at he
          · rename_i cs e0 g hid
            split at he
            · rename_i hc
              cases he
              obtain ⟨hg, he0, hoff, hle, hneed⟩ := hc
              subst hg; subst hoff
              simp only [AR] at hs
              obtain ⟨a, cap, rfl, hs⟩ := hs
              simp only [slOK, hid] at hs
              obtain ⟨hlc, hs⟩ := hs.2 trivial
              have hlt : id < h.length := (List.getElem?_eq_some_iff.1 hid).1
              have hset : ∀ o, (h.set id o)[id]? = some o := fun o => by simp [hlt]
              have hO := r.obj id _ hid
              -- what turns of the references
              have hslk : ∀ (rb : Option Nat) (w' : World), Imm w I w' I → ∀ gen off' len' a' cap', slOK h ρ w I id gen off' len' a' cap' → slOK (h.set id (.arr (cs.take (len * P.cellsOf e) ++ src) (P.cellsOf e) (g + 1))) (upd ρ id rb) w' I id gen off' len' a' cap' := by
                intro rb w' _ gen off' len' a' cap' hh
                simp only [slOK, hid] at hh
                simp only [slOK, hset]
                exact ⟨by omega, fun h => by omega⟩
              have hptk : ∀ (rb : Option Nat) (w' : World), Imm w I w' I → ∀ gen b, ptOK h ρ w I id gen b → ptOK (h.set id (.arr (cs.take (len * P.cellsOf e) ++ src) (P.cellsOf e) (g + 1))) (upd ρ id rb) w' I id gen b := by
                intro rb w' _ gen b hh
                simp only [ptOK, hid] at hh
                simp only [ptOK, hset]
                exact ⟨by omega, fun h => by omega⟩
              -- the data in front, as values
              have hold : ∃ old : List Value, DRv w I (cs.take (len * P.cellsOf e)) old ∧ (∀ u ∈ old, u.oneCell' = true) ∧ old.length = len * P.cellsOf e ∧
                  ∀ w' : World, w'.heap = w.heap → (Builtin.firstCells (P.cellsOf e) len (.slice a len cap)).run P w' = .ok old.toArray w' := by
                have hsc : sliceCells h (P.cellsOf e) (.sl id g 0 len) = some (len, (cs.drop 0).take (len * P.cellsOf e)) ∨ (e0 = 0 ∧ len ≠ 0) := by
                  simp only [sliceCells, hid]
                  by_cases h0 : len = 0 ∨ e0 = P.cellsOf e
                  · left; rw [if_pos ⟨trivial, h0, by omega⟩]
                  · right; omega
                rcases hsc with hsc | ⟨hz0, hl0⟩
                · obtain ⟨_, hl2, old, ho1, ho2, ho3⟩ := slice_read (P := P) hsc r (show AR h ρ w I (.sl id g 0 len) (.slice a len cap) from by
                    simp only [AR, slOK, hid]; exact ⟨a, cap, rfl, Nat.le_refl _, fun _ => ⟨hlc, hs⟩⟩)
                  simp only [List.drop_zero] at ho1 hl2
                  exact ⟨old, ho1, ho2, by rw [← ((DRv_iff _ _).1 ho1).1, hl2], ho3⟩
                · exfalso
                  simp only [OR] at hO
                  cases hρ : ρ id with
                  | none => rw [hρ] at hs; simp only [] at hs; omega
                  | some b => rw [hρ] at hO; omega
              obtain ⟨old, ho1, ho2, ho3, ho4⟩ := hold
              have hnew1 : DRv w I (cs.take (len * P.cellsOf e) ++ src) (old ++ vs) := DRv_append ho1 hdv
              have hones : ∀ u ∈ old ++ vs, u.oneCell' = true := fun u hu => (List.mem_append.1 hu).elim (ho2 u) (hvone u)
              have hlen2 : (cs.take (len * P.cellsOf e) ++ src).length = (len + n) * P.cellsOf e := by
                rw [List.length_append, List.length_take, hsl, Nat.add_mul]; omega
              by_cases hroom : len + n ≤ cap
              · -- in place
                by_cases hcap0 : cap = 0
                · have hl0 : len = 0 := by omega
                  have hn0 : n = 0 := by omega
                  subst hcap0; subst hl0; subst hn0
                  have hv0 : vs = [] := List.length_eq_zero_iff.1 (by omega)
                  have hs0 : src = [] := List.length_eq_zero_iff.1 (by omega)
                  subst hv0; subst hs0
                  have s1 := step_obj (o' := .arr (cs.take (0 * P.cellsOf e) ++ []) (P.cellsOf e) (g + 1)) (w' := w) (I' := I) r hid trivial (ρ id) rfl rfl rfl (Nat.le_refl _) (fun _ _ _ => rfl) (fun _ hb => hb) (fun _ hb => .inl hb) (fun _ hb => .inl hb) (hslk _ w) (hptk _ w) (fun ext => by
                    simp only [OR, upd_self] at hO ⊢
                    cases hρ : ρ id with
                    | none => simp
                    | some b =>
                      rw [hρ] at hO
                      obtain ⟨_, h2, C, E, fz, h3, h4, _⟩ := hO
                      exact ⟨hpos, h2, C, E, fz, h3, h4, by simp [DRs]⟩)
                  refine ⟨_, _, w, run_append_room (base := a) (sLen := 0) (sCap := 0) hu hi hd hnd hlen (hfirst w rfl) (Nat.le_refl _) (fun b _ => by simp [storeCells]) (fun _ => rfl), s1, ?_⟩
                  simp only [AR]
                  refine ⟨a, 0, rfl, ?_⟩
                  simp only [slOK, hset, upd_self]
                  refine ⟨Nat.le_refl _, fun _ => ⟨Nat.le_refl _, ?_⟩⟩
                  cases ρ id with
                  | none => exact trivial
                  | some b => exact .inl trivial
                · simp only [OR] at hO
                  cases hρ : ρ id with
                  | none => rw [hρ] at hs; simp only [] at hs; omega
                  | some b =>
                    rw [hρ] at hs hO
                    simp only [] at hs hO
                    rcases hs with hs | ⟨ha, _, C2, E2, fz2, hC2, hcapC⟩
                    · omega
                    · subst ha
                      obtain ⟨hez, hIb, C, E, fz, hC, hfz, hcs⟩ := hO
                      rw [hC2] at hC; cases hC
                      have hee : e0 = P.cellsOf e := by omega
                      subst hee
                      have hblt := (Array.getElem?_eq_some_iff.1 hC2).1
                      have hfit : len * P.cellsOf e + vs.length ≤ C2.size := by
                        have : (len + n) * P.cellsOf e ≤ cap * P.cellsOf e := Nat.mul_le_mul_right _ hroom
                        rw [hvl, ← Nat.add_mul]; omega
                      obtain ⟨C', h1, h2, h3⟩ := run_stores (P := P) (o := len * P.cellsOf e) vs 0 C2 w hC2 hfz (by omega) hvone
                      have hst : (storeCells (Addr.add ⟨b, 0, none⟩ (len * P.cellsOf e)) vs).run P w = .ok () (putBlk w b (.cells C' E2 fz2)) := by
                        rw [add_at, Nat.zero_add]; exact h1
                      obtain ⟨f1, f2, f3, f4⟩ := putBlk_facts (w := w) (b := b) (o := .cells C' E2 fz2)
                      have s1 := step_obj (o' := .arr (cs.take (len * P.cellsOf e) ++ src) (P.cellsOf e) (g + 1)) (w' := putBlk w b (.cells C' E2 fz2)) (I' := I) r hid trivial (ρ id) f1 f2 f3 (by rw [f4]; exact Nat.le_refl _)
                        (fun k _ hne => putBlk_other (fun e => hne (by rw [hρ, e]))) (fun _ hb => hb) (fun _ hb => .inl hb) (fun _ hb => .inl hb) (hslk _ _) (hptk _ _) (fun ext => by
                          simp only [OR, hρ, upd_same]
                          refine ⟨hpos, hIb, C', E2, fz2, putBlk_get hblt, fun j hj => hfz j (by omega), ?_⟩
                          refine DRs_of_DRv (DRv_mono ext.imm _ _ hnew1) (fun k v hk => ⟨?_, hones v (List.mem_of_getElem? hk)⟩)
                          rw [Nat.zero_add, cellAt_put hblt, h3 k]
                          by_cases hin : k < len * P.cellsOf e
                          · rw [if_neg (by omega)]
                            rw [List.getElem?_append_left (by omega)] at hk
                            have hk2 := ho4 w rfl
                            obtain ⟨d0, hd0⟩ : ∃ d0, cs[k]? = some d0 := ⟨cs[k], by simp⟩
                            obtain ⟨u0, hu0, _, _⟩ := (DRs_iff _ _ _).1 hcs k d0 hd0
                            rw [cellAt_eq hC2, Nat.zero_add] at hu0
                            rw [hu0]
                            have hload := hk2
                            simp only [Builtin.firstCells] at hload
                            -- both are what the load gave
                            have hvals : ∃ vs2 : List Value, vs2.length = len * P.cellsOf e ∧ ∀ (j : Nat) (x : Value), vs2[j]? = some x → cellAt w b (0 + j) = some x :=
                              ⟨C2.toList.take (len * P.cellsOf e), by simp; omega, fun j x hj => by
                                rw [Nat.zero_add, cellAt_eq hC2]
                                rw [List.getElem?_take] at hj
                                split at hj
                                · simpa using hj
                                · cases hj⟩
                            obtain ⟨vs2, hv1, hv2⟩ := hvals
                            have hl2 := run_loadCells' (P := P) (w := w) (b := b) (o := 0) vs2 hv2
                            rw [hv1, hload] at hl2
                            have : old = vs2 := by injection hl2 with hl2 _; simpa using hl2
                            subst this
                            have := hv2 k v hk
                            rw [cellAt_eq hC2, Nat.zero_add, hu0] at this
                            exact this
                          · have hlt2 := (List.getElem?_eq_some_iff.1 hk).1
                            rw [List.length_append, ho3] at hlt2
                            rw [if_pos (by omega)]
                            rw [List.getElem?_append_right (by omega), ho3] at hk
                            rw [Nat.add_zero]; exact hk)
                      rw [upd_self] at s1
                      refine ⟨_, ρ, _, run_append_room (base := some ⟨b, 0, none⟩) hu hi hd hnd hlen (hfirst w rfl) hroom (fun a ha => by cases ha; exact hst) (fun hh => by cases hh), s1, ?_⟩
                      simp only [AR]
                      refine ⟨_, _, rfl, ?_⟩
                      simp only [slOK, hset, hρ]
                      exact ⟨Nat.le_refl _, fun _ => ⟨hroom, .inr ⟨trivial, by omega, C', E2, fz2, putBlk_get hblt, by omega⟩⟩⟩
              · -- a new row
                obtain ⟨ncap, hncap, hrun2⟩ := run_append_grow (P := P) (ty := ty) (base := a) (sLen := len) (sCap := cap) (old := old) hu hi hd hnd hlen hfirst ho4 hrun hb0 hb1 hroom hneed
                have hC : (old.toArray ++ (vs.toArray ++ Builtin.zeroCells zv.cells (ncap - (len + n)))).toList = (old ++ vs) ++ (Builtin.zeroCells zv.cells (ncap - (len + n))).toList := by simp
                have hCs : (old.toArray ++ (vs.toArray ++ Builtin.zeroCells zv.cells (ncap - (len + n)))).size = ncap * P.cellsOf e := by
                  rw [← Array.length_toList, hC, List.length_append, List.length_append, zeroCells_toList, hvl, ho3]
                  simp [hsz]
                  rw [← Nat.add_mul, ← Nat.add_mul]; congr 1; omega
                have s1 := step_obj (o' := .arr (cs.take (len * P.cellsOf e) ++ src) (P.cellsOf e) (g + 1)) (w' := w.drew.alloc (.cells (old.toArray ++ (vs.toArray ++ Builtin.zeroCells zv.cells (ncap - (len + n)))) e)) (I' := I) r hid trivial (some w.heap.size)
                  (Grew.drewAlloc w _).os (Grew.drewAlloc w _).tape (Grew.drewAlloc w _).output (Grew.drewAlloc w _).size (fun k hk _ => (Grew.drewAlloc w _).same k hk) (fun _ hb => hb) (fun _ hb => .inl hb) (fun b hb => by cases hb; exact .inr (Nat.le_refl _)) (hslk _ _) (hptk _ _) (fun ext => by
                    simp only [OR, upd_same]
                    exact ⟨hpos, fun hI => by have := r.imm _ hI; omega, _, e, (0, 0), drewAlloc_new w _, unfrozen_zero _, DRs_push (drewAlloc_new w _) hC (DRv_mono ext.imm _ _ hnew1) hones⟩)
                refine ⟨_, _, _, hrun2, s1, ?_⟩
                simp only [AR]
                refine ⟨_, _, rfl, ?_⟩
                simp only [slOK, hset, upd_same]
                exact ⟨Nat.le_refl _, fun _ => ⟨hncap, .inr ⟨trivial, by omega, _, e, (0, 0), drewAlloc_new w _, by rw [Nat.zero_add]; exact Nat.le_of_eq hCs.symm⟩⟩⟩
            · cases he
          · cases he
        · cases he
      · cases he
    · cases he
  · cases he

theorem ARs_of_ARv {cs : List A} {vs : List Value} {b : Nat} (ha : ARv h ρ w I cs vs) (hc : ∀ (k : Nat) (v : Value), vs[k]? = some v → cellAt w b k = some v ∧ v.oneCell' = true) : ARs h ρ w I cs b := by
  intro k c hk
  obtain ⟨_, hall⟩ := (ARv_iff cs vs).1 ha
  obtain ⟨v, hv, hav⟩ := hall k c hk
  exact ⟨v, (hc k v hv).1, hav, (hc k v hv).2⟩

theorem ARs_push {cs : List A} {vs rest : List Value} {C : Array Value} {E : TypeId} {fz : Nat × Nat} {b : Nat} (hb : w.heap[b]? = some (.cells C E fz)) (hC : C.toList = vs ++ rest) (ha : ARv h ρ w I cs vs) (ho : ∀ u ∈ vs, u.oneCell' = true) : ARs h ρ w I cs b :=
  ARs_of_ARv ha fun k v hk => ⟨by
    rw [cellAt_eq hb, ← Array.getElem?_toList, hC, List.getElem?_append_left (List.getElem?_eq_some_iff.1 hk).1]; exact hk, ho v (List.mem_of_getElem? hk)⟩

/-- What the machine reads where the evaluator reads a slice, with references. -/
theorem slice_readA {esz : Nat} {x : A} {xv : Value} {n : Nat} {as : List A} (he : sliceAs h esz x = some (n, as)) (r : Rel h ρ w I) (hx : AR h ρ w I x xv) :
    (∀ w', (Builtin.lenOf xv).run P w' = .ok n w') ∧ as.length = n * esz ∧ ∃ vs, ARv h ρ w I as vs ∧ (∀ u ∈ vs, u.oneCell' = true) ∧ ∀ w' : World, w'.heap = w.heap → (Builtin.firstCells esz n xv).run P w' = .ok vs.toArray w' := by
  have plain : (sliceCells h esz x).map (fun r => (r.1, r.2.map A.d)) = some (n, as) → (∀ w', (Builtin.lenOf xv).run P w' = .ok n w') ∧ as.length = n * esz ∧ ∃ vs, ARv h ρ w I as vs ∧ (∀ u ∈ vs, u.oneCell' = true) ∧ ∀ w' : World, w'.heap = w.heap → (Builtin.firstCells esz n xv).run P w' = .ok vs.toArray w' := by
    intro hh
    obtain ⟨⟨m, ds⟩, h1, h2⟩ := Option.map_eq_some_iff.1 hh
    simp only [Prod.mk.injEq] at h2
    obtain ⟨rfl, rfl⟩ := h2
    obtain ⟨g1, g2, vs, g3, g4, g5⟩ := slice_read (P := P) h1 r hx
    exact ⟨g1, by simpa using g2, vs, (ARv_map_d ds vs).2 g3, g4, g5⟩
  cases x with
  | sl id gen off len =>
    simp only [sliceAs] at he
    cases hid : h[id]? with
    | none => rw [hid] at he; exact plain he
    | some o =>
      rw [hid] at he
      cases o with
      | arr cs e g => exact plain he
      | box cs => exact plain he
      | ice cs e g => exact plain he
      | void => exact plain he
      | vec cs e g =>
        simp only [] at he
        split at he
        · rename_i hc
          cases he
          simp only [AR] at hx
          obtain ⟨a, cap, rfl, hs⟩ := hx
          simp only [slOK, hid] at hs
          have h3 := hs.2 hc.1.symm
          rcases Nat.eq_zero_or_pos n with h0 | h0
          · subst h0
            refine ⟨fun w' => rfl, by simp, [], by simp [ARv], by simp, fun w' _ => ?_⟩
            cases a <;> simp [Builtin.firstCells, loadCells, loadCellsFrom]
          · have hO := r.obj id _ hid
            simp only [OR] at hO
            cases hρ : ρ id with
            | none => rw [hρ] at h3; have := h3.1; have := h3.2; simp only [] at this; omega
            | some b =>
              rw [hρ] at hO h3
              obtain ⟨_, _, C, E, fz, _, _, hd⟩ := hO
              rcases h3.2 with h4 | ⟨h4, _⟩
              · have := h3.1; omega
              · subst h4
                have hl : ((cs.drop off).take (n * esz)).length = n * esz := by simp; have := hc.2.2; omega
                obtain ⟨vs, h1, h2⟩ := ARs_vals (h := h) (ρ := ρ) (w := w) (I := I) (b := b) ((cs.drop off).take (n * esz)) off (fun k c hk => by
                  rw [List.getElem?_take] at hk
                  split at hk
                  · exact hd (off + k) c (by simpa using hk)
                  · cases hk)
                have hvl : vs.length = n * esz := by rw [← ARv_len h1, hl]
                refine ⟨fun w' => rfl, hl, vs, h1, fun u hu => ?_, fun w' hw' => ?_⟩
                · obtain ⟨k, hk⟩ := List.mem_iff_getElem?.1 hu
                  exact (h2 k u hk).2
                · have := run_loadCells' (P := P) (w := w') (b := b) (o := off) vs (fun k v hk => (cellAt_same (w := w) (w' := w') (by rw [hw'])).trans (h2 k v hk).1)
                  rw [hvl] at this
                  simpa [Builtin.firstCells] using this
        · cases he
  | _ => simp only [sliceAs] at he; exact plain he

theorem appendV_ok {t u : TypeId} {ty : TypeId} {x y : A} {id gen off len : Nat} {sv xv : Value} {h' : H} {d : TypeDesc} (hd : P.underlying u = some d) (hnd : ∀ k, d ≠ .int k) (he : aAppendV P h t id gen off len x = some (y, h')) (r : Rel h ρ w I) (hs : AR h ρ w I (.sl id gen off len) sv) (hx : AR h ρ w I x xv) :
    ∃ v ρ' w', (Builtin.append_ #[t, u] ty #[sv, xv]).run P w = .ok v w' ∧ Step h ρ w I h' ρ' w' I ∧ AR h' ρ' w' I y v := by
  unfold aAppendV at he
  split at he
  · rename_i e hel
    have hu := elemT_under hel
    split at he
    · rename_i hok
      obtain ⟨i, z, zv, hi, hz, hzv, hrun, hzr, hsz, hzl, _, hpos, hb0, hb1, hone⟩ := elem_ok hok
      split at he
      · rename_i n src cs e0 g hsrc hid
        obtain ⟨hlen, hsl, vs, hdv, hvone, hfirst⟩ := slice_readA (P := P) hsrc r hx
        have hvl : vs.length = n * P.cellsOf e := by rw [← ARv_len hdv, hsl]
        split at he
        · rename_i hc
          cases he
          obtain ⟨hg, he0, hoff, hle, hneed⟩ := hc
          subst hg; subst hoff
          simp only [AR] at hs
          obtain ⟨a, cap, rfl, hs⟩ := hs
          simp only [slOK, hid] at hs
          obtain ⟨hlc, hs⟩ := hs.2 trivial
          have hlt : id < h.length := (List.getElem?_eq_some_iff.1 hid).1
          have hset : ∀ o, (h.set id o)[id]? = some o := fun o => by simp [hlt]
          have hO := r.obj id _ hid
          -- what turns of the references
          have hslk : ∀ (rb : Option Nat) (w' : World), Imm w I w' I → ∀ gen off' len' a' cap', slOK h ρ w I id gen off' len' a' cap' → slOK (h.set id (.vec (cs.take (len * P.cellsOf e) ++ src) (P.cellsOf e) (g + 1))) (upd ρ id rb) w' I id gen off' len' a' cap' := by
            intro rb w' _ gen off' len' a' cap' hh
            simp only [slOK, hid] at hh
            simp only [slOK, hset]
            exact ⟨by omega, fun h => by omega⟩
          have hptk : ∀ (rb : Option Nat) (w' : World), Imm w I w' I → ∀ gen b, ptOK h ρ w I id gen b → ptOK (h.set id (.vec (cs.take (len * P.cellsOf e) ++ src) (P.cellsOf e) (g + 1))) (upd ρ id rb) w' I id gen b := by
            intro rb w' _ gen b hh
            simp only [ptOK, hid] at hh
            simp only [ptOK, hset]
            exact ⟨by omega, fun h => by omega⟩
          -- the cells in front, as values
          have hold : ∃ old : List Value, ARv h ρ w I (cs.take (len * P.cellsOf e)) old ∧ (∀ u ∈ old, u.oneCell' = true) ∧ old.length = len * P.cellsOf e ∧
              ∀ w' : World, w'.heap = w.heap → (Builtin.firstCells (P.cellsOf e) len (.slice a len cap)).run P w' = .ok old.toArray w' := by
            have hsc : sliceAs h (P.cellsOf e) (.sl id g 0 len) = some (len, (cs.drop 0).take (len * P.cellsOf e)) ∨ (e0 = 0 ∧ len ≠ 0) := by
              simp only [sliceAs, hid]
              by_cases h0 : len = 0 ∨ e0 = P.cellsOf e
              · left; rw [if_pos ⟨trivial, h0, by omega⟩]
              · right; omega
            rcases hsc with hsc | ⟨hz0, hl0⟩
            · obtain ⟨_, hl2, old, ho1, ho2, ho3⟩ := slice_readA (P := P) hsc r (show AR h ρ w I (.sl id g 0 len) (.slice a len cap) from by
                simp only [AR, slOK, hid]; exact ⟨a, cap, rfl, Nat.le_refl _, fun _ => ⟨hlc, hs⟩⟩)
              simp only [List.drop_zero] at ho1 hl2
              exact ⟨old, ho1, ho2, by rw [← ARv_len ho1, hl2], ho3⟩
            · exfalso
              simp only [OR] at hO
              cases hρ : ρ id with
              | none => rw [hρ] at hs; simp only [] at hs; omega
              | some b => rw [hρ] at hO; omega
          obtain ⟨old, ho1, ho2, ho3, ho4⟩ := hold
          have hnew1 : ARv h ρ w I (cs.take (len * P.cellsOf e) ++ src) (old ++ vs) := ARv_append ho1 hdv
          have hones : ∀ u ∈ old ++ vs, u.oneCell' = true := fun u hu => (List.mem_append.1 hu).elim (ho2 u) (hvone u)
          have hlen2 : (cs.take (len * P.cellsOf e) ++ src).length = (len + n) * P.cellsOf e := by
            rw [List.length_append, List.length_take, hsl, Nat.add_mul]; omega
          by_cases hroom : len + n ≤ cap
          · -- in place
            by_cases hcap0 : cap = 0
            · have hl0 : len = 0 := by omega
              have hn0 : n = 0 := by omega
              subst hcap0; subst hl0; subst hn0
              have hv0 : vs = [] := List.length_eq_zero_iff.1 (by omega)
              have hs0 : src = [] := List.length_eq_zero_iff.1 (by omega)
              subst hv0; subst hs0
              have s1 := step_obj (o' := .vec (cs.take (0 * P.cellsOf e) ++ []) (P.cellsOf e) (g + 1)) (w' := w) (I' := I) r hid trivial (ρ id) rfl rfl rfl (Nat.le_refl _) (fun _ _ _ => rfl) (fun _ hb => hb) (fun _ hb => .inl hb) (fun _ hb => .inl hb) (hslk _ w) (hptk _ w) (fun ext => by
                simp only [OR, upd_self] at hO ⊢
                cases hρ : ρ id with
                | none => simp
                | some b =>
                  rw [hρ] at hO
                  obtain ⟨_, h2, C, E, fz, h3, h4, _⟩ := hO
                  exact ⟨hpos, h2, C, E, fz, h3, h4, fun k c hk => by simp at hk⟩)
              refine ⟨_, _, w, run_append_room (base := a) (sLen := 0) (sCap := 0) hu hi hd hnd hlen (hfirst w rfl) (Nat.le_refl _) (fun b _ => by simp [storeCells]) (fun _ => rfl), s1, ?_⟩
              simp only [AR]
              refine ⟨a, 0, rfl, ?_⟩
              simp only [slOK, hset, upd_self]
              refine ⟨Nat.le_refl _, fun _ => ⟨Nat.le_refl _, ?_⟩⟩
              cases ρ id with
              | none => exact trivial
              | some b => exact .inl trivial
            · simp only [OR] at hO
              cases hρ : ρ id with
              | none => rw [hρ] at hs; simp only [] at hs; omega
              | some b =>
                rw [hρ] at hs hO
                simp only [] at hs hO
                rcases hs with hs | ⟨ha, _, C2, E2, fz2, hC2, hcapC⟩
                · omega
                · subst ha
                  obtain ⟨hez, hIb, C, E, fz, hC, hfz, hcs⟩ := hO
                  rw [hC2] at hC; cases hC
                  have hee : e0 = P.cellsOf e := by omega
                  subst hee
                  have hblt := (Array.getElem?_eq_some_iff.1 hC2).1
                  have hfit : len * P.cellsOf e + vs.length ≤ C2.size := by
                    have : (len + n) * P.cellsOf e ≤ cap * P.cellsOf e := Nat.mul_le_mul_right _ hroom
                    rw [hvl, ← Nat.add_mul]; omega
                  obtain ⟨C', h1, h2, h3⟩ := run_stores (P := P) (o := len * P.cellsOf e) vs 0 C2 w hC2 hfz (by omega) hvone
                  have hst : (storeCells (Addr.add ⟨b, 0, none⟩ (len * P.cellsOf e)) vs).run P w = .ok () (putBlk w b (.cells C' E2 fz2)) := by
                    rw [add_at, Nat.zero_add]; exact h1
                  obtain ⟨f1, f2, f3, f4⟩ := putBlk_facts (w := w) (b := b) (o := .cells C' E2 fz2)
                  have s1 := step_obj (o' := .vec (cs.take (len * P.cellsOf e) ++ src) (P.cellsOf e) (g + 1)) (w' := putBlk w b (.cells C' E2 fz2)) (I' := I) r hid trivial (ρ id) f1 f2 f3 (by rw [f4]; exact Nat.le_refl _)
                    (fun k _ hne => putBlk_other (fun e => hne (by rw [hρ, e]))) (fun _ hb => hb) (fun _ hb => .inl hb) (fun _ hb => .inl hb) (hslk _ _) (hptk _ _) (fun ext => by
                      simp only [OR, hρ, upd_same]
                      refine ⟨hpos, hIb, C', E2, fz2, putBlk_get hblt, fun j hj => hfz j (by omega), ?_⟩
                      rw [hρ] at ext
                      refine ARs_of_ARv (ARv_ext ext _ _ hnew1) (fun k v hk => ⟨?_, hones v (List.mem_of_getElem? hk)⟩)
                      rw [cellAt_put hblt, h3 k]
                      by_cases hin : k < len * P.cellsOf e
                      · rw [if_neg (by omega)]
                        rw [List.getElem?_append_left (by omega)] at hk
                        have hk2 := ho4 w rfl
                        obtain ⟨d0, hd0⟩ : ∃ d0, cs[k]? = some d0 := ⟨cs[k], by simp⟩
                        obtain ⟨u0, hu0, _, _⟩ := hcs k d0 hd0
                        rw [cellAt_eq hC2] at hu0
                        rw [hu0]
                        have hload := hk2
                        simp only [Builtin.firstCells] at hload
                        -- both are what the load gave
                        have hvals : ∃ vs2 : List Value, vs2.length = len * P.cellsOf e ∧ ∀ (j : Nat) (x : Value), vs2[j]? = some x → cellAt w b (0 + j) = some x :=
                          ⟨C2.toList.take (len * P.cellsOf e), by simp; omega, fun j x hj => by
                            rw [Nat.zero_add, cellAt_eq hC2]
                            rw [List.getElem?_take] at hj
                            split at hj
                            · simpa using hj
                            · cases hj⟩
                        obtain ⟨vs2, hv1, hv2⟩ := hvals
                        have hl2 := run_loadCells' (P := P) (w := w) (b := b) (o := 0) vs2 hv2
                        rw [hv1, hload] at hl2
                        have : old = vs2 := by injection hl2 with hl2 _; simpa using hl2
                        subst this
                        have := hv2 k v hk
                        rw [cellAt_eq hC2, Nat.zero_add, hu0] at this
                        exact this
                      · have hlt2 := (List.getElem?_eq_some_iff.1 hk).1
                        rw [List.length_append, ho3] at hlt2
                        rw [if_pos (by omega)]
                        rw [List.getElem?_append_right (by omega), ho3] at hk
                        rw [Nat.add_zero]; exact hk)
                  rw [upd_self] at s1
                  refine ⟨_, ρ, _, run_append_room (base := some ⟨b, 0, none⟩) hu hi hd hnd hlen (hfirst w rfl) hroom (fun a ha => by cases ha; exact hst) (fun hh => by cases hh), s1, ?_⟩
                  simp only [AR]
                  refine ⟨_, _, rfl, ?_⟩
                  simp only [slOK, hset, hρ]
                  exact ⟨Nat.le_refl _, fun _ => ⟨hroom, .inr ⟨trivial, by omega, C', E2, fz2, putBlk_get hblt, by omega⟩⟩⟩
          · -- a new row
            obtain ⟨ncap, hncap, hrun2⟩ := run_append_grow (P := P) (ty := ty) (base := a) (sLen := len) (sCap := cap) (old := old) hu hi hd hnd hlen hfirst ho4 hrun hb0 hb1 hroom hneed
            have hC : (old.toArray ++ (vs.toArray ++ Builtin.zeroCells zv.cells (ncap - (len + n)))).toList = (old ++ vs) ++ (Builtin.zeroCells zv.cells (ncap - (len + n))).toList := by simp
            have hCs : (old.toArray ++ (vs.toArray ++ Builtin.zeroCells zv.cells (ncap - (len + n)))).size = ncap * P.cellsOf e := by
              rw [← Array.length_toList, hC, List.length_append, List.length_append, zeroCells_toList, hvl, ho3]
              simp [hsz]
              rw [← Nat.add_mul, ← Nat.add_mul]; congr 1; omega
            have s1 := step_obj (o' := .vec (cs.take (len * P.cellsOf e) ++ src) (P.cellsOf e) (g + 1)) (w' := w.drew.alloc (.cells (old.toArray ++ (vs.toArray ++ Builtin.zeroCells zv.cells (ncap - (len + n)))) e)) (I' := I) r hid trivial (some w.heap.size)
              (Grew.drewAlloc w _).os (Grew.drewAlloc w _).tape (Grew.drewAlloc w _).output (Grew.drewAlloc w _).size (fun k hk _ => (Grew.drewAlloc w _).same k hk) (fun _ hb => hb) (fun _ hb => .inl hb) (fun b hb => by cases hb; exact .inr (Nat.le_refl _)) (hslk _ _) (hptk _ _) (fun ext => by
                simp only [OR, upd_same]
                exact ⟨hpos, fun hI => by have := r.imm _ hI; omega, _, e, (0, 0), drewAlloc_new w _, unfrozen_zero _, ARs_push (drewAlloc_new w _) hC (ARv_ext ext _ _ hnew1) hones⟩)
            refine ⟨_, _, _, hrun2, s1, ?_⟩
            simp only [AR]
            refine ⟨_, _, rfl, ?_⟩
            simp only [slOK, hset, upd_same]
            exact ⟨Nat.le_refl _, fun _ => ⟨hncap, .inr ⟨trivial, by omega, _, e, (0, 0), drewAlloc_new w _, by rw [Nat.zero_add]; exact Nat.le_of_eq hCs.symm⟩⟩⟩
        · cases he
      · cases he
    · cases he
  · cases he

theorem emptyArr_some {h : H} {id e g : Nat} (hem : emptyArr h id = some (e, g)) : h[id]? = some (.arr [] e g) := by
  unfold emptyArr at hem
  split at hem
  · rename_i hh; cases hem; exact hh
  · cases hem

/-- An empty slice may be one of references. -/
theorem step_vec {id e g : Nat} (r : Rel h ρ w I) (hid : h[id]? = some (.arr [] e g)) : Step h ρ w I (h.set id (.vec [] e g)) ρ w I := by
  have hlt : id < h.length := (List.getElem?_eq_some_iff.1 hid).1
  have at_id : (h.set id (.vec [] e g))[id]? = some (.vec [] e g) := by simp [hlt]
  have hO := r.obj id _ hid
  have s := step_obj (o' := .vec [] e g) (w' := w) (I' := I) r hid trivial (ρ id) rfl rfl rfl (Nat.le_refl _) (fun _ _ _ => rfl) (fun _ hb => hb) (fun _ hb => .inl hb) (fun _ hb => .inl hb)
    (fun _ gen off len a cap hs => by
      rw [upd_self]
      simp only [slOK, hid] at hs
      simp only [slOK, at_id]
      exact hs)
    (fun _ gen b hs => by
      rw [upd_self]
      simp only [ptOK, hid] at hs
      simp only [ptOK, at_id]
      exact hs)
    (fun _ => by
      rw [upd_self]
      simp only [OR] at hO ⊢
      cases hρ : ρ id with
      | none => trivial
      | some b =>
        rw [hρ] at hO
        obtain ⟨h1, h2, C, E, fz, h3, h4, _⟩ := hO
        exact ⟨h1, h2, C, E, fz, h3, h4, fun k c hk => by simp at hk⟩)
  rw [upd_self] at s
  exact s

theorem append_ok {t u : TypeId} {ty : TypeId} {s x y : A} {sv xv : Value} {h' : H} {d : TypeDesc} (hd : P.underlying u = some d) (hnd : ∀ k, d ≠ .int k) (he : aAppend P h t s x = some (y, h')) (r : Rel h ρ w I) (hs : AR h ρ w I s sv) (hx : AR h ρ w I x xv) :
    ∃ v ρ' w', (Builtin.append_ #[t, u] ty #[sv, xv]).run P w = .ok v w' ∧ Step h ρ w I h' ρ' w' I ∧ AR h' ρ' w' I y v := by
  unfold aAppend at he
  split at he
  · split at he
    · exact appendV_ok hd hnd he r hs hx
    · split at he
      · split at he
        · rename_i e g hem
          have s1 := step_vec r (emptyArr_some hem)
          obtain ⟨v, ρ', w', h1, h2, h3⟩ := appendV_ok hd hnd he s1.rel (AR_ext s1.ext _ _ hs) (AR_ext s1.ext _ _ hx)
          exact ⟨v, ρ', w', h1, s1.trans h2, h3⟩
        · exact append0_ok hd hnd he r hs hx
      · exact append0_ok hd hnd he r hs hx
  · exact append0_ok hd hnd he r hs hx

/-! ### slices of references are made -/

theorem makeVec_ok {t : TypeId} {k k' : IntKind} {l c : Int} {x : A} {h' : H} (he : aMakeVec P h t l c = some (x, h')) (r : Rel h ρ w I) :
    ∃ u ρ' w', (Instr.makeSlice t (.int k l) (.int k' c)).run P w = .ok u w' ∧ Step h ρ w I h' ρ' w' I ∧ AR h' ρ' w' I x u := by
  unfold aMakeVec at he
  split at he
  · rename_i e hel
    have hu := elemT_under hel
    split at he
    · rename_i z hz
      split at he
      · rename_i zs hzs
        split at he
        · rename_i hc
          cases he
          obtain ⟨hel2, h0, hlc, hcm⟩ := hc
          obtain ⟨i, z', zv, hi, hz', hzv, hrun, hzr, hsz, hzl, hok, hpos, hb0, hb1, hone⟩ := elem_ok hel2
          rw [hz] at hz'; cases hz'
          have hbytes : i.bytes = P.bytesOf e := by simp [Program.bytesOf, hi]
          obtain ⟨l', rfl⟩ := Int.eq_ofNat_of_zero_le h0
          obtain ⟨c', rfl⟩ := Int.eq_ofNat_of_zero_le (Int.le_trans h0 hlc)
          have hlc' : l' ≤ c' := by omega
          have hcm' : c' ≤ maxNeed := by omega
          have wl : IntKind.i64.wrap (l' : Int) = l' := wrap_i64 (by omega) (by omega)
          have wc : IntKind.i64.wrap (c' : Int) = c' := wrap_i64 (by omega) (by omega)
          have hd := fun w I => dataOf_ok (h := []) (ρ := fun _ => none) (w := w) (I := I) hzs (hzr _ _ w I)
          have hzsl : zs.length = P.cellsOf e := by rw [((DRv_iff _ _).1 (hd w I)).1]; simpa using hsz
          have small : ∀ n : Nat, n ≤ maxNeed → ¬ ((P.bytesOf e : Int) * n > 2 ^ 48) := by
            intro n hn
            have h1 : P.bytesOf e * n ≤ 1024 * maxNeed := Nat.mul_le_mul hb1 hn
            have h2 : (1024 * maxNeed : Nat) ≤ 2 ^ 48 := by unfold maxNeed; omega
            have h3 : ((P.bytesOf e * n : Nat) : Int) ≤ ((2 ^ 48 : Nat) : Int) := by exact_mod_cast Nat.le_trans h1 h2
            rw [Int.natCast_mul] at h3
            have h4 : ((2 ^ 48 : Nat) : Int) = 2 ^ 48 := by norm_cast
            omega
          have hcells : ((Array.range (c' * P.cellsOf e)).map fun j => zv.cells[j % zv.cells.size]!).toList = (List.replicate c' zv.cells.toList).flatten := by
            rw [Array.toList_map, Array.toList_range, ← range_flat]
            simp [hsz]
          let C : Array Value := (Array.range (c' * P.cellsOf e)).map fun j => zv.cells[j % zv.cells.size]!
          have g := Grew.push w (.cells C e (0, 0))
          have hnew : ({ w with heap := w.heap.push (.cells C e (0, 0)) } : World).heap[w.heap.size]? = some (.cells C e (0, 0)) := by simp
          have hCsz : C.size = c' * P.cellsOf e := by simp [C]
          have hsplit : C.toList = (List.replicate l' zv.cells.toList).flatten ++ (List.replicate (c' - l') zv.cells.toList).flatten := by
            show ((Array.range (c' * P.cellsOf e)).map fun j => zv.cells[j % zv.cells.size]!).toList = _
            rw [hcells, ← List.flatten_append, List.replicate_append_replicate]
            congr 2; omega
          have s2 := step_push r g (.vec ((List.replicate l' zs).flatten.map .d) (P.cellsOf e) 0) (some w.heap.size) (fun b hb => by cases hb; exact Nat.le_refl _) (fun ext => by
            simp only [OR, upd_same]
            refine ⟨hpos, fun hI => by have := r.imm _ hI; omega, C, e, (0, 0), hnew, unfrozen_zero _, ARs_push hnew hsplit ((ARv_map_d _ _).2 (DRv_flat (hd _ _) l')) (fun u hu => ?_)⟩
            obtain ⟨l1, hl1, hu1⟩ := List.mem_flatten.1 hu
            rw [(List.mem_replicate.1 hl1).2] at hu1
            exact hone u hu1)
          refine ⟨.slice (some ⟨w.heap.size, 0, none⟩) l' c', _, _, ?_, s2, ?_⟩
          · have nc := small c' hcm'
            rw [← hbytes] at nc
            have l0 : ¬ ((l' : Int) < 0) := by omega
            have c0 : ¬ ((c' : Int) < 0) := by omega
            have nc' : ¬ ((281474976710656 : Int) < (i.bytes : Int) * c') := by omega
            rcases Nat.eq_zero_or_pos c' with hz0 | hz0
            · subst hz0
              have hl0 : l' = 0 := by omega
              subst hl0
              simp [Instr.makeSlice, run_under hu, asInt, asIntOf, run_info hi, show IntKind.i64.wrap 0 = 0 from by decide, run_size hi, show Array.range 0 = #[] from rfl, newRow, newObj, Sem.run, C]
            · have hne : ¬ (c' * P.cellsOf e = 0) := by have := Nat.mul_pos hz0 hpos; omega
              have hll : ¬ ((c' : Int) < l') := by omega
              simp [Instr.makeSlice, run_under hu, asInt, asIntOf, run_info hi, wl, wc, nc', hll, l0, c0, run_size hi, hne, hrun, newRow, newObj, Sem.run, C]
          · simp only [AR, Int.toNat_natCast]
            refine ⟨_, _, rfl, ?_⟩
            have e1 : (h ++ [O.vec ((List.replicate l' zs).flatten.map .d) (P.cellsOf e) 0])[h.length]? = some (.vec ((List.replicate l' zs).flatten.map .d) (P.cellsOf e) 0) := by simp
            have hdl : ((List.replicate l' zs).flatten.map A.d).length = l' * P.cellsOf e := by simp [hzsl]
            simp only [slOK, e1, upd_same]
            exact ⟨Nat.le_refl _, fun _ => ⟨hlc', .inr ⟨trivial, by omega, C, e, (0, 0), hnew, by omega⟩⟩⟩
        · cases he
      · cases he
    · cases he
  · cases he

theorem buildVec_ok {t : TypeId} {len : Nat} {parts : Array (Nat × Operand)} {ev : Operand → Value} {as : List A} {x : A} {h' : H} (he : aBuildVec P h t len ((parts.toList.map (·.1)).zip as) = some (x, h')) (r : Rel h ρ w I) (ha : ARv h ρ w I as ((parts.toList.map (·.2)).map ev)) :
    ∃ u ρ' w' I', (Instr.buildSlice t len (parts.map fun (i, x) => (i, ev x))).run P w = .ok u w' ∧ Step h ρ w I h' ρ' w' I' ∧ AR h' ρ' w' I' x u := by
  have hl : (parts.toList.map (·.1)).length = as.length := by rw [ARv_len ha]; simp
  unfold aBuildVec at he
  split at he
  · rename_i e hel
    have hu := elemT_under hel
    split at he
    · rename_i z hz
      split at he
      · rename_i hc
        obtain ⟨i, z', zv, hi, hz', hzv, hrun, hzr, hsz, hzl, hok, hpos, _, _, hone⟩ := elem_ok hc.1
        rw [hz] at hz'; cases hz'
        split at he
        · rename_i cells hf
          split at he
          · rename_i hokc
            · cases he
              have hzc := ARv_flat (hzr h ρ w I) len
              have hp := parts_rel (h := h) (ρ := ρ) (w := w) (I := I) (place := fun i => some (i * P.cellsOf e, P.cellsOf e)) _ as _ hl ha
              have hzero : ((Array.range (len * P.cellsOf e)).map fun i => zv.cells[i % zv.cells.size]!).toList = (List.replicate len zv.cells.toList).flatten := by
                rw [Array.toList_map, Array.toList_range, ← range_flat]
                simp [hsz]
              obtain ⟨C', h2, h3⟩ := fill_ok _ _ _ _ ((Array.range (len * P.cellsOf e)).map fun i => zv.cells[i % zv.cells.size]!) hf hp (by rw [hzero]; exact hzc)
              rw [zip_parts] at h2
              have hones : ∀ u ∈ C'.toList, u.oneCell' = true := by
                intro u hu
                obtain ⟨k, hk⟩ := List.mem_iff_getElem?.1 hu
                have hlk : k < cells.length := by rw [ARv_len h3]; exact (List.getElem?_eq_some_iff.1 hk).1
                obtain ⟨u', hu', hau⟩ := ((ARv_iff _ _).1 h3).2 k cells[k] (by simp)
                rw [hk] at hu'; cases hu'
                exact one_of hau (List.all_eq_true.1 hokc _ (by simp))
              have g := Grew.push w (.cells C' e (0, 0))
              have hnew : ({ w with heap := w.heap.push (.cells C' e (0, 0)) } : World).heap[w.heap.size]? = some (.cells C' e (0, 0)) := by simp
              have s2 := step_push r g (.vec cells (P.cellsOf e) 0) (some w.heap.size) (fun b hb => by cases hb; exact Nat.le_refl _) (fun ext => by
                simp only [OR, upd_same]
                exact ⟨hpos, fun hI => by have := r.imm _ hI; omega, C', e, (0, 0), hnew, unfrozen_zero _, ARs_push (rest := []) hnew (by simp) (ARv_ext ext _ _ h3) hones⟩)
              refine ⟨.slice (some ⟨w.heap.size, 0, none⟩) len len, _, _, I, ?_, s2, ?_⟩
              · by_cases h0 : len = 0
                · subst h0
                  have h2' : Instr.fill (fun i => some (i * P.cellsOf e, P.cellsOf e)) #[] (parts.toList.map fun x => (x.1, ev x.2)) = some C' := by simpa [show Array.range 0 = #[] from rfl] using h2
                  simp [Instr.buildSlice, run_under hu, run_size hi, show Array.range 0 = #[] from rfl, h2', newRow, newObj, Sem.run]
                · have hne : ¬ (len * P.cellsOf e = 0) := by have := Nat.mul_pos (show 0 < len by omega) hpos; omega
                  have hle : ¬ (2 ^ 24 < len * P.cellsOf e) := by have := hc.2; omega
                  simp [Instr.buildSlice, run_under hu, run_size hi, hrun, hle, hne, h2, newRow, newObj, Sem.run]
              · simp only [AR]
                refine ⟨_, _, rfl, ?_⟩
                have e1 : (h ++ [O.vec cells (P.cellsOf e) 0])[h.length]? = some (.vec cells (P.cellsOf e) 0) := by simp
                have hcl : C'.size = len * P.cellsOf e := by
                  have a1 := ARv_len h3
                  have a2 : cells.length = (List.replicate len (cellsA z)).flatten.length := fill_len _ _ _ hf
                  have a3 : C'.toList.length = C'.size := by simp
                  rw [← a3, ← a1, a2]
                  simp [hzl]
                have hdl : cells.length = len * P.cellsOf e := by rw [ARv_len h3]; simpa using hcl
                simp only [slOK, e1, upd_same]
                exact ⟨Nat.le_refl _, fun _ => ⟨Nat.le_refl _, .inr ⟨trivial, by omega, C', e, (0, 0), hnew, by omega⟩⟩⟩
          · cases he
        · cases he
      · cases he
    · cases he
  · cases he

end

end Ev
end Go.Proofs.Ytidobgmklcbcpaa
