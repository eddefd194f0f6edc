/-
  Conversions; one operation.
-/
import Derived.Test.YtidobgmklcbcpaaEvOps5
import Derived.Lib.ConvBytes
namespace Go.Proofs.Ytidobgmklcbcpaa
namespace Ev

section
variable {P : Program} {h : H} {ρ : Rho} {w : World} {I : Nat → Prop}

theorem foldl_push (f : Int → UInt8) : ∀ (ns : List Int) (acc : ByteArray), (ns.foldl (fun r n => r.push (f n)) acc).data.toList = acc.data.toList ++ ns.map f
  | [], acc => by simp
  | n :: ns, acc => by
    simp only [List.foldl_cons, List.map_cons]
    rw [foldl_push f ns]
    simp [ByteArray.push]

theorem bytesD_ok : ∀ {ds : List D} {bs : List UInt8} {vs : List Value}, bytesD ds = some bs → DRv w I ds vs → ∃ ns : List Int, vs = ns.map (Value.int .u8) ∧ bs = ns.map fun n => UInt8.ofNat n.toNat
  | [], bs, vs, he, hd => by
    simp only [bytesD, Option.some.injEq] at he; subst he
    simp only [DRv] at hd; subst hd
    exact ⟨[], rfl, rfl⟩
  | d :: ds, bs, vs, he, hd => by
    simp only [DRv] at hd
    obtain ⟨v, rest, rfl, h1, h2⟩ := hd
    unfold bytesD at he
    split at he
    · rename_i h0; cases h0
    · rename_i n ds' h0
      cases h0
      simp only [Option.map_eq_some_iff] at he
      obtain ⟨bs', hbs, rfl⟩ := he
      obtain ⟨ns, rfl, rfl⟩ := bytesD_ok hbs h2
      simp only [DR] at h1
      subst h1
      exact ⟨n :: ns, rfl, rfl⟩
    · cases he

theorem str_of_data {s : ByteArray} {l : List UInt8} (h : s.data.toList = l) : s = ⟨l.toArray⟩ := by
  cases s with
  | mk d => simp only at h; rw [← h]

theorem bytesWorld_new (w : World) (e : TypeId) (s : ByteArray) : ∃ fz, (Lib.bytesWorld w e s).heap[w.heap.size]? = some (.cells (Lib.bytesCells w e s) e fz) ∧ Unfrozen (Lib.bytesCells w e s) fz := by
  refine ⟨((Lib.bytesCells w e s).size, (Lib.bytesCells w e s).size + 1), ?_, fun j hj h => by simp at h; omega⟩
  have e0 : (Lib.bytesWorld w e s).heap[w.heap.size]? = ((w.heap.push (.cells (Lib.bytesCells w e s) e)).modify w.heap.size fun
      | .cells c elem (lo, hi) => .cells c elem (if lo == hi then ((Lib.bytesCells w e s).size, (Lib.bytesCells w e s).size + 1) else (min lo (Lib.bytesCells w e s).size, max hi ((Lib.bytesCells w e s).size + 1)))
      | o => o)[w.heap.size]? := rfl
  rw [e0, Array.getElem?_modify, if_pos rfl]
  simp

theorem slice_is {esz : Nat} {x : A} {v : Value} {r : Nat × List D} (he : sliceCells h esz x = some r) (hx : AR h ρ w I x v) (hn : ∀ s, x ≠ .d (.str s)) : ∃ a len cap, v = .slice a len cap := by
  unfold sliceCells at he
  split at he
  · simp only [AR, DR] at hx; obtain ⟨a, rfl⟩ := hx; exact ⟨_, _, _, rfl⟩
  · simp only [AR, DR] at hx; obtain ⟨a, cap, rfl, _⟩ := hx; exact ⟨_, _, _, rfl⟩
  · exact absurd rfl (hn _)
  · simp only [AR] at hx; obtain ⟨a, cap, rfl, _⟩ := hx; exact ⟨_, _, _, rfl⟩
  · cases he

theorem convert_ok {src dst : TypeId} {a x : A} {v : Value} {h' : H} (he : aConvert P h src dst a = some (x, h')) (r : Rel h ρ w I) (ha : AR h ρ w I a v) :
    ∃ u ρ' w', (convert src dst v).run P w = .ok u w' ∧ Step h ρ w I h' ρ' w' I ∧ AR h' ρ' w' I x u := by
  unfold aConvert at he
  split at he
  · rename_i k1 k2 k n hs hd
    cases he
    simp only [AR, DR] at ha; subst ha
    exact ⟨.int k2 (k2.wrap n), ρ, w, by simp [convert, run_under hs, run_under hd, Conv.intToInt], .refl r, by simp only [AR, DR]⟩
  · rename_i k1 k n hs hd
    cases he
    simp only [AR, DR] at ha; subst ha
    exact ⟨.string (Utf8.encode n), ρ, w, by simp [convert, run_under hs, run_under hd, Conv.intToString], .refl r, by simp only [AR, DR]⟩
  · rename_i s hs hd
    cases he
    simp only [AR, DR] at ha; subst ha
    exact ⟨_, ρ, w, by simp [convert, run_under hs, run_under hd]; rfl, .refl r, by simp only [AR, DR]⟩
  · rename_i e s hs hd
    split at he
    · rename_i hm
      have hel := hm
      simp only [if_true] at he
      cases he
      simp only [AR, DR] at ha; subst ha
      have hrun := Lib.run_convert_string_bytes w src dst e ⟨s.toArray⟩ hs hd hel
      obtain ⟨fz, hnew, hfz⟩ := bytesWorld_new w e ⟨s.toArray⟩
      have hsz : (⟨s.toArray⟩ : ByteArray).size = s.length := by simp [ByteArray.size]
      have g : Grew w (Lib.bytesWorld w e ⟨s.toArray⟩) := by
        refine ⟨?_, ?_, ?_, ?_, fun b hb => Lib.bytesWorld_at_old w e _ b hb, ?_⟩
        rotate_right
        · simp [Lib.bytesWorld, World.freeze, World.alloc, World.drew, -World.alloc_eq, -World.drew_eq]
        · simp [Lib.bytesWorld, World.freeze, World.alloc, World.drew, -World.alloc_eq, -World.drew_eq]
        · simp [Lib.bytesWorld, World.freeze, World.alloc, World.drew, -World.alloc_eq, -World.drew_eq]
        · simp [Lib.bytesWorld, World.freeze, World.alloc, World.drew, -World.alloc_eq, -World.drew_eq]
        · simp [Lib.bytesWorld, World.freeze, World.alloc, World.drew, -World.alloc_eq, -World.drew_eq]
      have hC : (Lib.bytesCells w e ⟨s.toArray⟩).toList = (s.map fun b => Value.int .u8 b.toNat) ++ (Array.replicate (grownCap w (⟨s.toArray⟩ : ByteArray).size 0 e - (⟨s.toArray⟩ : ByteArray).size) (Value.int .u8 0)).toList := by
        simp [Lib.bytesCells]
      have s1 := step_push r g (.arr (s.map fun b => .int .u8 b.toNat) 1 0) (some w.heap.size) (fun b hb => by cases hb; exact Nat.le_refl _) (fun ext => by
        simp only [OR, upd_same]
        refine ⟨by omega, fun hI => by have := r.imm _ hI; omega, _, e, fz, hnew, hfz, DRs_push hnew hC ?_ ?_⟩
        · rw [DRv_iff]
          refine ⟨by simp, fun k d hk => ?_⟩
          rw [List.getElem?_map] at hk ⊢
          cases hk' : s[k]? with
          | none => rw [hk'] at hk; cases hk
          | some b => rw [hk'] at hk; simp at hk; subst hk; exact ⟨_, rfl, by simp only [DR]⟩
        · intro u hu
          obtain ⟨b, _, rfl⟩ := List.mem_map.1 hu
          rfl)
      have hcap : s.length ≤ grownCap w (⟨s.toArray⟩ : ByteArray).size 0 e := by rw [hsz]; simp [grownCap, Question.cut]
      refine ⟨_, _, _, hrun, s1, ?_⟩
      simp only [AR]
      rw [hsz]
      refine ⟨_, _, rfl, ?_⟩
      have e1 : (h ++ [O.arr (s.map fun b => D.int .u8 b.toNat) 1 0])[h.length]? = some (.arr (s.map fun b => D.int .u8 b.toNat) 1 0) := by simp
      simp only [slOK, e1, upd_same]
      refine ⟨Nat.le_refl _, fun _ => ⟨by rw [← hsz] at hcap ⊢; rw [hsz] at hcap; rw [hsz]; exact hcap, .inr ⟨trivial, by simp, _, e, fz, hnew, ?_⟩⟩⟩
      rw [← Array.length_toList, hC]
      simp
      rw [hsz] at hcap ⊢
      omega
    · simp at he
  · cases he
  · rename_i e hs hd hnos
    split at he
    · rename_i hm
      have hel := hm
      simp only [if_true] at he
      split at he
      · rename_i n cs hsc
        simp only [Option.map_eq_some_iff] at he
        obtain ⟨bs, hbs, he⟩ := he
        cases he
        obtain ⟨hlen, hcl, vs, hdv, hone, hfirst⟩ := slice_read (P := P) hsc r ha
        obtain ⟨ns, rfl, rfl⟩ := bytesD_ok hbs hdv
        have hl := hfirst w rfl
        have hln := hlen w
        obtain ⟨a, len, cap, rfl⟩ := slice_is hsc ha hnos
        simp only [Builtin.lenOf, Sem.run_pure, Result.ok.injEq] at hln
        cases a with
        | none =>
          simp only [Builtin.firstCells, Sem.run_pure, Result.ok.injEq] at hl
          have : ns = [] := by have := hl.1; cases ns with | nil => rfl | cons => simp at this
          subst this
          exact ⟨.string .empty, ρ, w, by simp [convert, run_under hs, run_under hd, run_under hel, Conv.bytesToString], .refl r, by simp only [AR, DR]; rfl⟩
        | some a =>
          simp only [Builtin.firstCells, Nat.mul_one] at hl
          rw [← hln.1] at hl
          have := run_bytesToString (P := P) w a len cap ns hl
          refine ⟨_, ρ, w, by simp [convert, run_under hs, run_under hd, run_under hel, this]; rfl, .refl r, ?_⟩
          simp only [AR, DR]
          congr 1
          refine str_of_data ?_
          rw [foldl_push]
          simp
      · cases he
    · simp at he
  · cases he

end

end Ev
end Go.Proofs.Ytidobgmklcbcpaa
