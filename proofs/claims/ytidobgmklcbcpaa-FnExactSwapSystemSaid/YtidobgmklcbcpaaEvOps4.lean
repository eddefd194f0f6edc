/-
  Literals, made slices, appends, conversions.
-/
import Derived.Test.YtidobgmklcbcpaaEvOps3
import Derived.Laws.BytesString
namespace Go.Proofs.Ytidobgmklcbcpaa
namespace Ev

section
variable {P : Program} {h : H} {ρ : Rho} {w : World} {I : Nat → Prop}

theorem cells_rel {a : A} {v : Value} (ha : AR h ρ w I a v) (hn : notJunk a = true) : ARv h ρ w I (cellsA a) v.cells.toList := by
  have single : (∀ C, v ≠ .agg C) → cellsA a = [a] → ARv h ρ w I (cellsA a) v.cells.toList := by
    intro hk hc
    have e : v.cells = #[v] := by cases v <;> first | rfl | exact absurd rfl (hk _)
    rw [hc, e]
    simp only [ARv]
    exact ⟨v, [], rfl, ha, rfl⟩
  cases a with
  | agg cs =>
    simp only [AR] at ha
    obtain ⟨C, rfl, hc⟩ := ha
    exact hc
  | d x =>
    refine single (fun C hC => ?_) rfl
    subst hC
    simp only [AR] at ha
    cases x <;> simp only [DR] at ha
    all_goals first
      | (cases ha; done)
      | (obtain ⟨_, _, ha, _⟩ := ha; cases ha; done)
      | (obtain ⟨_, ha, _⟩ := ha; cases ha; done)
      | (obtain ⟨_, ha⟩ := ha; cases ha; done)
  | sl id gen off len => exact single (fun C hC => by subst hC; simp only [AR] at ha; obtain ⟨_, _, ha, _⟩ := ha; cases ha) rfl
  | ptr id gen off => exact single (fun C hC => by subst hC; simp only [AR] at ha; obtain ⟨_, ha, _⟩ := ha; cases ha) rfl
  | clo f caps => exact single (fun C hC => by subst hC; simp only [AR] at ha; obtain ⟨_, ha, _⟩ := ha; cases ha) rfl
  | tup cs => exact single (fun C hC => by subst hC; simp only [AR] at ha; obtain ⟨_, ha, _⟩ := ha; cases ha) rfl
  | junk => simp [notJunk] at hn

/-! ### filling in the parts of a literal -/

theorem foldl_set (off : Nat) : ∀ (l : List Value) (k : Nat) (C : Array Value), off + k + l.length ≤ C.size →
    ((l.zipIdx k).foldl (fun (cs : Array Value) (p : Value × Nat) => cs.setIfInBounds (off + p.2) p.1) C).toList = setRun C.toList (off + k) l
  | [], k, C, _ => by simp [setRun]
  | v :: l, k, C, hl => by
    simp only [List.length_cons] at hl
    simp only [List.zipIdx_cons, List.foldl_cons]
    rw [foldl_set off l (k + 1) _ (by simp; omega)]
    apply List.ext_getElem?
    intro j
    rw [setRun_get _ _ _ (by simp; omega), setRun_get _ _ _ (by simp; omega)]
    simp only [Array.toList_setIfInBounds, List.length_cons]
    by_cases e : j = off + k
    · subst e
      rw [if_neg (by omega), if_pos (by omega), List.getElem?_set]
      simp
      omega
    · by_cases e2 : off + (k + 1) ≤ j ∧ j < off + (k + 1) + l.length
      · rw [if_pos e2, if_pos (by omega), show j - (off + k) = (j - (off + (k + 1))) + 1 from by omega]
        simp
      · rw [if_neg e2, if_neg (by omega), List.getElem?_set_ne (by omega)]

/-- The parts of a literal, as the machine has them. -/
def PartsRel (h : H) (ρ : Rho) (w : World) (I : Nat → Prop) (place : Nat → Option (Nat × Nat)) : List (Option (Nat × Nat) × A) → List (Nat × Value) → Prop
  | [], qs => qs = []
  | (p, a) :: ps, qs => ∃ i v rest, qs = (i, v) :: rest ∧ place i = p ∧ AR h ρ w I a v ∧ PartsRel h ρ w I place ps rest

theorem fill_ok {place : Nat → Option (Nat × Nat)} : ∀ (ps : List (Option (Nat × Nat) × A)) (qs : List (Nat × Value)) (cells cells' : List A) (C : Array Value), fillA cells ps = some cells' → PartsRel h ρ w I place ps qs → ARv h ρ w I cells C.toList →
    ∃ C', Instr.fill place C qs = some C' ∧ ARv h ρ w I cells' C'.toList
  | [], qs, cells, cells', C, he, hp, hc => by
    simp only [fillA, Option.some.injEq] at he
    subst he
    simp only [PartsRel] at hp
    subst hp
    exact ⟨C, by simp [Instr.fill], hc⟩
  | (none, a) :: ps, qs, cells, cells', C, he, hp, hc => by simp [fillA] at he
  | (some (off, size), a) :: ps, qs, cells, cells', C, he, hp, hc => by
    simp only [PartsRel] at hp
    obtain ⟨i, v, rest, rfl, hpl, ha, hr⟩ := hp
    simp only [fillA] at he
    split at he
    · rename_i hcond
      obtain ⟨hs, hle, hj⟩ := hcond
      have hcv := cells_rel ha hj
      have hvl : v.cells.toList.length = size := by rw [← ARv_len hcv, hs]
      have hCl : C.toList.length = cells.length := (ARv_len hc).symm
      have hvs : v.cells.size = size := by simpa using hvl
      have hCs : C.size = cells.length := by simpa using hCl
      have hf := foldl_set off v.cells.toList 0 C (by omega)
      rw [Nat.add_zero] at hf
      obtain ⟨C', h1, h2⟩ := fill_ok ps rest _ cells' ((v.cells.toList.zipIdx 0).foldl (fun (cs : Array Value) (p : Value × Nat) => cs.setIfInBounds (off + p.2) p.1) C) he hr (by
        rw [hf]
        unfold setRun
        rw [hvl, ← hs]
        exact ARv_append (ARv_append (ARv_take off hc) hcv) (ARv_drop (off + (cellsA a).length) hc))
      refine ⟨C', ?_, h2⟩
      simp only [Instr.fill, hpl]
      have hcond : (v.cells.size ≠ size || decide (off + v.cells.size > C.size)) = false := by
        simp [hvs, hCs]; omega
      simp only [hcond, Bool.false_eq_true, if_false]
      rw [← h1]
      congr 1
      rw [← Array.foldl_toList, Array.toList_zipIdx]
    · cases he

theorem fill_len : ∀ (ps : List (Option (Nat × Nat) × A)) (cells cells' : List A), fillA cells ps = some cells' → cells'.length = cells.length
  | [], cells, cells', he => by simp only [fillA, Option.some.injEq] at he; rw [he]
  | (none, _) :: _, _, _, he => by simp [fillA] at he
  | (some (off, size), v) :: ps, cells, cells', he => by
    simp only [fillA] at he
    split at he
    · rename_i hc
      rw [fill_len ps _ _ he, setRun_length _ _ _ (by omega)]
    · cases he

theorem run_places' (w : World) : ∀ (fs : List Field), (fs.all fun f => (P.info? f.type).isSome) = true → (fs.mapM fun f => Prod.mk f.offset <$> sizeOf f.type).run P w = .ok (fs.map fun f => (f.offset, P.cellsOf f.type)) w
  | [], _ => by simp
  | f :: fs, ha => by
    simp only [List.all_cons, Bool.and_eq_true] at ha
    obtain ⟨i, hi⟩ := Option.isSome_iff_exists.1 ha.1
    have := run_places' w fs ha.2
    simp [List.mapM_cons, run_size hi, this]

theorem zero_ok {t : TypeId} {z : A} (he : zeroA P t = some z) : ∃ i v, P.info? t = some i ∧ i.zero = some v ∧ (∀ w, (zeroValue t).run P w = .ok v w) ∧ ∀ h ρ w I, AR h ρ w I z v := by
  unfold zeroA at he
  split at he
  · rename_i i hi
    simp only [Option.bind_eq_some_iff] at he
    obtain ⟨v, hv, hz⟩ := he
    exact ⟨i, v, hi, hv, fun w => by simp [zeroValue, run_info hi, hv], fun h ρ w I => aConst_ok hz h ρ w I⟩
  · cases he

theorem aConst_notJunk {v : Value} {z : A} (he : aConst v = some z) : notJunk z = true := by
  unfold aConst at he
  split at he
  · simp only [Option.map_eq_some_iff] at he; obtain ⟨_, _, rfl⟩ := he; rfl
  · unfold aScalar at he
    split at he <;> first | (cases he; rfl) | cases he

theorem zero_notJunk {t : TypeId} {z : A} (he : zeroA P t = some z) : notJunk z = true := by
  unfold zeroA at he
  split at he
  · simp only [Option.bind_eq_some_iff] at he
    obtain ⟨v, _, hz⟩ := he
    exact aConst_notJunk hz
  · cases he

theorem parts_rel {place : Nat → Option (Nat × Nat)} : ∀ (is : List Nat) (as : List A) (vs : List Value), is.length = as.length → ARv h ρ w I as vs → PartsRel h ρ w I place ((is.zip as).map fun (i, v) => (place i, v)) (is.zip vs)
  | [], as, vs, _, _ => by simp [PartsRel]
  | i :: is, [], vs, hl, _ => by simp at hl
  | i :: is, a :: as, vs, hl, ha => by
    simp only [ARv] at ha
    obtain ⟨v, rest, rfl, h1, h2⟩ := ha
    simp only [List.zip_cons_cons, List.map_cons, PartsRel]
    exact ⟨i, v, _, rfl, rfl, h1, parts_rel is as rest (by simpa using hl) h2⟩

/-- The parts with their values. -/
theorem zip_parts (parts : List (Nat × Operand)) (ev : Operand → Value) : (parts.map (·.1)).zip ((parts.map (·.2)).map ev) = parts.map fun x => (x.1, ev x.2) := by
  rw [List.map_map, List.zip_map']
  rfl

theorem build_ok {t : TypeId} {parts : Array (Nat × Operand)} {ev : Operand → Value} {as : List A} {x : A} (he : aBuild P t ((parts.toList.map (·.1)).zip as) = some x) (ha : ARv h ρ w I as ((parts.toList.map (·.2)).map ev)) :
    ∃ u, (Instr.build t (parts.map fun (i, x) => (i, ev x))).run P w = .ok u w ∧ AR h ρ w I x u := by
  have hl : (parts.toList.map (·.1)).length = as.length := by rw [ARv_len ha]; simp
  unfold aBuild at he
  split at he
  · rename_i z fields hz hu
    split at he
    · rename_i hall
      simp only [Option.map_eq_some_iff] at he
      obtain ⟨cells, hf, rfl⟩ := he
      obtain ⟨i, zv, hi, hzv, hrun, hzr⟩ := zero_ok hz
      have hzc := cells_rel (hzr h ρ w I) (zero_notJunk hz)
      have hp := parts_rel (h := h) (ρ := ρ) (w := w) (I := I) (place := fun i => (fields.toList[i]?).map fun f => (f.offset, P.cellsOf f.type)) _ as _ hl ha
      obtain ⟨C', h1, h2⟩ := fill_ok _ _ _ _ _ hf hp hzc
      rw [zip_parts] at h1
      refine ⟨.agg C', ?_, by simp only [AR]; exact ⟨C', rfl, h2⟩⟩
      have hpl := run_places' (P := P) w fields.toList hall
      have e : (fun (i : Nat) => (fields.toList[i]?).map fun (f : Field) => (f.offset, P.cellsOf f.type)) = fun (i : Nat) => (fields[i]?).map fun (f : Field) => (f.offset, P.cellsOf f.type) := by
        funext i; simp
      rw [e] at h1
      simp [Instr.build, run_under hu, hrun, Array.mapM_eq_mapM_toList, hpl, h1]
    · cases he
  · rename_i z n e hz hu
    split at he
    · rename_i hinfo
      obtain ⟨j, hj⟩ := Option.isSome_iff_exists.1 hinfo
      simp only [Option.map_eq_some_iff] at he
      obtain ⟨cells, hf, rfl⟩ := he
      obtain ⟨i, zv, hi, hzv, hrun, hzr⟩ := zero_ok hz
      have hzc := cells_rel (hzr h ρ w I) (zero_notJunk hz)
      have hp := parts_rel (h := h) (ρ := ρ) (w := w) (I := I) (place := fun i => some (i * P.cellsOf e, P.cellsOf e)) _ as _ hl ha
      obtain ⟨C', h1, h2⟩ := fill_ok _ _ _ _ _ hf hp hzc
      rw [zip_parts] at h1
      refine ⟨.agg C', ?_, by simp only [AR]; exact ⟨C', rfl, h2⟩⟩
      simp [Instr.build, run_under hu, hrun, run_size hj, h1]
    · cases he
  · cases he

/-! ### runs of zeros -/

theorem range_flat (zs : List Value) : ∀ n, (List.range (n * zs.length)).map (fun i => zs.toArray[i % zs.toArray.size]!) = (List.replicate n zs).flatten
  | 0 => by simp
  | n + 1 => by
    rw [Nat.add_mul, Nat.one_mul, List.range_add, List.map_append, range_flat zs n, List.replicate_succ', List.flatten_append]
    congr 1
    simp only [List.flatten_cons, List.flatten_nil, List.append_nil, List.map_map]
    apply List.ext_getElem?
    intro k
    rcases Nat.lt_or_ge k zs.length with hk | hk
    · have : (n * zs.length + k) % zs.length = k := by rw [Nat.mul_comm, Nat.mul_add_mod]; exact Nat.mod_eq_of_lt hk
      simp [hk, this]
    · simp [hk]

theorem ARv_flat {zs : List A} {vs : List Value} (hz : ARv h ρ w I zs vs) : ∀ n, ARv h ρ w I (List.replicate n zs).flatten (List.replicate n vs).flatten
  | 0 => by simp [ARv]
  | n + 1 => by
    simp only [List.replicate_succ, List.flatten_cons]
    exact ARv_append hz (ARv_flat hz n)

theorem elem_ok {e : TypeId} (he : elemOk P e = true) : ∃ i z zv, P.info? e = some i ∧ zeroA P e = some z ∧ i.zero = some zv ∧ (∀ w, (zeroValue e).run P w = .ok zv w) ∧ (∀ h ρ w I, ARv h ρ w I (cellsA z) zv.cells.toList) ∧
    zv.cells.size = P.cellsOf e ∧ (cellsA z).length = P.cellsOf e ∧ (cellsA z).all okCell = true ∧ 0 < P.cellsOf e ∧ 0 < P.bytesOf e ∧ P.bytesOf e ≤ 1024 ∧ ∀ u ∈ zv.cells.toList, u.oneCell' = true := by
  unfold elemOk at he
  split at he
  · rename_i z hz
    simp only [Bool.and_eq_true, decide_eq_true_eq, beq_iff_eq] at he
    obtain ⟨⟨⟨⟨h1, h2⟩, h3⟩, h4⟩, h5⟩ := he
    obtain ⟨i, zv, hi, hzv, hrun, hzr⟩ := zero_ok hz
    have hc := fun h ρ w I => cells_rel (hzr h ρ w I) (zero_notJunk hz)
    refine ⟨i, z, zv, hi, hz, hzv, hrun, hc, ?_, h1, h2, h3, h4, h5, (cells_ok (hzr [] (fun _ => none) default (fun _ => False)) h2).2⟩
    have := ARv_len (hc [] (fun _ => none) default (fun _ => False))
    rw [h1] at this
    simpa using this.symm
  · cases he

theorem elemT_under {t e : TypeId} (h : elemT P t = some e) : P.underlying t = some (.slice e) := by
  unfold elemT at h
  split at h
  · rename_i hu; cases h; exact hu
  · cases h

theorem DRs_push {w' : World} {ds : List D} {vs : List Value} {b : Nat} {C : Array Value} {E : TypeId} {fz : Nat × Nat} {l : List Value} (hb : w'.heap[b]? = some (.cells C E fz)) (hC : C.toList = vs ++ l) (hd : DRv w' I ds vs) (hone : ∀ u ∈ vs, u.oneCell' = true) : DRs w' I ds b 0 := by
  refine DRs_of_DRv hd (fun k v hk => ?_)
  refine ⟨?_, hone v (List.mem_of_getElem? hk)⟩
  rw [Nat.zero_add, cellAt_eq hb]
  have hlt := (List.getElem?_eq_some_iff.1 hk).1
  have : C.toList[k]? = some v := by rw [hC, List.getElem?_append_left hlt]; exact hk
  simpa using this

theorem buildSlice_ok {t : TypeId} {len : Nat} {parts : Array (Nat × Operand)} {ev : Operand → Value} {as : List A} {x : A} {h' : H} (he : aBuildSlice P h t len ((parts.toList.map (·.1)).zip as) = some (x, h')) (r : Rel h ρ w I) (ha : ARv h ρ w I as ((parts.toList.map (·.2)).map ev)) :
    ∃ u ρ' w' I', (Instr.buildSlice t len (parts.map fun (i, x) => (i, ev x))).run P w = .ok u w' ∧ Step h ρ w I h' ρ' w' I' ∧ AR h' ρ' w' I' x u := by
  have hl : (parts.toList.map (·.1)).length = as.length := by rw [ARv_len ha]; simp
  unfold aBuildSlice at he
  split at he
  · rename_i e hel
    have hu := elemT_under hel
    split at he
    · rename_i z hz
      split at he
      · rename_i hc
        obtain ⟨i, z', zv, hi, hz', hzv, hrun, hzr, hsz, hzl, hok, hpos, _, _, hone⟩ := elem_ok hc.1
        rw [hz] at hz'; cases hz'
        split at he
        · rename_i cells hf
          split at he
          · rename_i hokc
            split at he
            · rename_i ds h1 hfr
              cases he
              have hzc := ARv_flat (hzr h ρ w I) len
              have hp := parts_rel (h := h) (ρ := ρ) (w := w) (I := I) (place := fun i => some (i * P.cellsOf e, P.cellsOf e)) _ as _ hl ha
              have hzero : ((Array.range (len * P.cellsOf e)).map fun i => zv.cells[i % zv.cells.size]!).toList = (List.replicate len zv.cells.toList).flatten := by
                rw [Array.toList_map, Array.toList_range, ← range_flat]
                simp [hsz]
              obtain ⟨C', h2, h3⟩ := fill_ok _ _ _ _ ((Array.range (len * P.cellsOf e)).map fun i => zv.cells[i % zv.cells.size]!) hf hp (by rw [hzero]; exact hzc)
              rw [zip_parts] at h2
              have hones : ∀ u ∈ C'.toList, u.oneCell' = true := by
                intro u hu
                obtain ⟨k, hk⟩ := List.mem_iff_getElem?.1 hu
                have hlk : k < cells.length := by rw [ARv_len h3]; exact (List.getElem?_eq_some_iff.1 hk).1
                obtain ⟨u', hu', hau⟩ := ((ARv_iff _ _).1 h3).2 k cells[k] (by simp)
                rw [hk] at hu'; cases hu'
                exact one_of hau (List.all_eq_true.1 hokc _ (by simp))
              obtain ⟨I1, s1, d1⟩ := frzL_ok hfr r h3
              have g := Grew.push w (.cells C' e (0, 0))
              have hnew : ({ w with heap := w.heap.push (.cells C' e (0, 0)) } : World).heap[w.heap.size]? = some (.cells C' e (0, 0)) := by simp
              have s2 := step_push s1.rel g (.arr ds (P.cellsOf e) 0) (some w.heap.size) (fun b hb => by cases hb; exact Nat.le_refl _) (fun ext => by
                simp only [OR, upd_same]
                exact ⟨hpos, fun hI => by have := s1.rel.imm _ hI; omega, C', e, (0, 0), hnew, unfrozen_zero _, DRs_push (l := []) hnew (by simp) (DRv_mono ext.imm _ _ d1) hones⟩)
              refine ⟨.slice (some ⟨w.heap.size, 0, none⟩) len len, _, _, I1, ?_, s1.trans s2, ?_⟩
              · by_cases h0 : len = 0
                · subst h0
                  have h2' : Instr.fill (fun i => some (i * P.cellsOf e, P.cellsOf e)) #[] (parts.toList.map fun x => (x.1, ev x.2)) = some C' := by simpa [show Array.range 0 = #[] from rfl] using h2
                  simp [Instr.buildSlice, run_under hu, run_size hi, show Array.range 0 = #[] from rfl, h2', newRow, newObj, Sem.run]
                · have hne : ¬ (len * P.cellsOf e = 0) := by have := Nat.mul_pos (show 0 < len by omega) hpos; omega
                  have hle : ¬ (2 ^ 24 < len * P.cellsOf e) := by have := hc.2; omega
                  simp [Instr.buildSlice, run_under hu, run_size hi, hrun, hle, hne, h2, newRow, newObj, Sem.run]
              · simp only [AR]
                refine ⟨_, _, rfl, ?_⟩
                have e1 : (h1 ++ [O.arr ds (P.cellsOf e) 0])[h1.length]? = some (.arr ds (P.cellsOf e) 0) := by simp
                have hcl : C'.size = len * P.cellsOf e := by
                  have a1 := ARv_len h3
                  have a2 : cells.length = (List.replicate len (cellsA z)).flatten.length := fill_len _ _ _ hf
                  have a3 : C'.toList.length = C'.size := by simp
                  rw [← a3, ← a1, a2]
                  simp [hzl]
                have hdl : ds.length = len * P.cellsOf e := by rw [((DRv_iff _ _).1 d1).1]; simpa using hcl
                simp only [slOK, e1, upd_same]
                exact ⟨Nat.le_refl _, fun _ => ⟨Nat.le_refl _, .inr ⟨trivial, by omega, C', e, (0, 0), hnew, by omega⟩⟩⟩
            · cases he
          · cases he
        · cases he
      · cases he
    · cases he
  · cases he

end

end Ev
end Go.Proofs.Ytidobgmklcbcpaa
