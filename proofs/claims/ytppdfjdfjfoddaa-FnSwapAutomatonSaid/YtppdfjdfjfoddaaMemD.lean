/-
  Memory of some shapes at the end of a round. Written by a program.
-/
import Derived.Test.YtppdfjdfjfoddaaGc1
section
set_option linter.unusedSimpArgs false
set_option linter.unusedVariables false
set_option maxRecDepth 4000
namespace Go.Proofs.Ytppdfjdfjfoddaa
namespace Ev
end Ev
end Go.Proofs.Ytppdfjdfjfoddaa
end

/-!
  Copies of automata, laid in memory by the laws' own functions.
-/
section
set_option linter.unusedSimpArgs false
set_option linter.unusedVariables false
set_option maxRecDepth 8000
set_option pp.maxSteps 6000
set_option maxHeartbeats 4000000
namespace Go.Proofs.Ytppdfjdfjfoddaa
namespace Ev
end Ev
end Go.Proofs.Ytppdfjdfjfoddaa
end

/-!
  Calls over memory of which just some blocks are known.
-/
section
set_option linter.unusedSimpArgs false
set_option linter.unusedVariables false
set_option maxRecDepth 8000
set_option pp.maxSteps 6000
set_option maxHeartbeats 4000000
namespace Go.Proofs.Ytppdfjdfjfoddaa
namespace Ev
section
variable {h : H} {a b c d : O}
theorem end3_get : (h ++ [a, b, c])[h.length + 1 + 1]? = some c := by
 rw [List.getElem?_append_right (by omega), show h.length + 1 + 1 - h.length = 2 by omega]
 rfl
theorem end3_set : (h ++ [a, b, c]).set (h.length + 1 + 1) d = h ++ [a, b, d] := by
 rw [List.set_append_right _ _ (by omega), show h.length + 1 + 1 - h.length = 2 by omega]
 rfl
end
theorem clash_ro {a b : Foot} (ha : a.ro = true) (hb : b.ro = true) : clash a b = false := by
 unfold clash
 rw [ha, hb]
 rfl
section
variable {L n : Nat} {h : H} {al : Int} {rs : List (List Int)} {ac : List Bool}
end
end Ev
end Go.Proofs.Ytppdfjdfjfoddaa
end

/-!
  Operations of a region that draws its order, in memory of any size: an append to a slice of references, a store.
-/
section
set_option linter.unusedSimpArgs false
set_option linter.unusedVariables false
set_option maxRecDepth 8000
set_option maxHeartbeats 4000000
namespace Go.Proofs.Ytppdfjdfjfoddaa
namespace Ev
theorem mapAs_take {f : Nat → Option Nat} : ∀ (k : Nat) (cs : List A), (mapAs f cs).take k = mapAs f (cs.take k)
 | 0, cs => by simp [mapAs]
 | k + 1, [] => by simp [mapAs]
 | k + 1, c :: cs => by simp only [mapAs, List.take_succ_cons, mapAs_take k cs]
theorem mapAs_drop {f : Nat → Option Nat} : ∀ (k : Nat) (cs : List A), (mapAs f cs).drop k = mapAs f (cs.drop k)
 | 0, cs => rfl
 | k + 1, [] => by simp [mapAs]
 | k + 1, c :: cs => by simp only [mapAs, List.drop_succ_cons, mapAs_drop k cs]
theorem putBack_set {h : H} {ord ids : List Nat} {id k : Nat} {o : O} (hc : closed h ord ids = true) (hn : ord.Nodup) (hl : ∀ i ∈ ord, i < h.length) (hk : place ord id = some k) :
  putBack (fun (k : Nat) => ord[k]?) h ord ((pack h ord).set k o) = h.set id (mapO (fun (k : Nat) => ord[k]?) o) := by
 have hpl : (pack h ord).length = ord.length := by simp [pack]
 have hid := hl id (place_mem hk)
 apply List.ext_getElem?
 intro i
 rw [putBack_get _ ord h _ i hn hl (by simp [pack])]
 cases hp : place ord i with
 | none =>
  have hne : id ≠ i := fun e => by rw [e, hp] at hk; cases hk
  rw [List.getElem?_set_ne hne]
  simp only []
  split
  ·rfl
  ·rename_i hge
   rw [List.getElem?_eq_none (by simp [pack]), List.getElem?_eq_none (by omega)]
   rfl
 | some q =>
  simp only []
  by_cases hqk : q = k
  ·subst hqk
   have h1 := place_some hp
   have h2 := place_some hk
   rw [h1] at h2
   obtain rfl : i = id := Option.some.inj h2
   rw [List.getElem?_set_self (by rw [hpl]; exact place_lt hp), List.getElem?_set_self hid]
   rfl
  ·have hne : id ≠ i := fun e => by rw [e, hp] at hk; exact hqk (Option.some.inj hk)
   rw [List.getElem?_set_ne (fun e => hqk e.symm), List.getElem?_set_ne hne]
   have hm := place_mem hp
   obtain ⟨x, hx⟩ : ∃ x, h[i]? = some x := ⟨h[i]'(hl i hm), List.getElem?_eq_getElem _⟩
   rw [pack_at (place_some hp) hx, hx, Option.map_some, mapO_back hc hm hx]
theorem memD_set {E : Env} {call : CallF} {thaw : List Nat} {dst : Option Tmp} {op : Op} {h : H} {vs : List A} {a a2 : A} {o o2 : O} {id k : Nat} {ord : List Nat} (hord : reach fuelR h (idsL vs) [] = ord) (hc : closed h ord (idsL vs) = true) (hk : place ord id = some k) (hro : readOp E op vs = false)
  (hev : evOp E call thaw (pack h ord) (asOper dst op) (mapAs (place ord) vs) = some (a, (pack h ord).set k o)) (ha : mapA (fun (k : Nat) => ord[k]?) a = a2) (ho : mapO (fun (k : Nat) => ord[k]?) o = o2) :
  memD E call thaw dst op h vs = some (a2, h.set id o2, { ids := ord, ro := false, wr := wrOf E op vs ord }) := by
 have hn : ord.Nodup := by rw [← hord]; exact reach_nodup fuelR h (idsL vs) [] (by simp)
 have hl : ∀ i ∈ ord, i < h.length := by rw [← hord]; exact reach_lt fuelR h (idsL vs) [] (by simp)
 have hpl : ((pack h ord).set k o).length = ord.length := by simp [pack]
 unfold memD
 rw [hord]
 simp only [box, hev, hpl, Nat.le_refl, hc, and_self, if_true, hro, Bool.false_and, Bool.false_eq_true, if_false, back_same, Nat.sub_self]
 rw [putBack_set hc hn hl hk, ha, ho]
 simp
theorem memD_appV {E : Env} {call : CallF} {thaw : List Nat} {dst : Option Tmp} {args : Array Operand} {t e : TypeId} {h : H} {id id2 g g2 len : Nat} {cs : List A} {c : A} (he : elemT E.P t = some e) (hce : E.P.cellsOf e = 1) (hel : elemOk E.P e = true)
  (h1 : h[id]? = some (.vec cs 1 g)) (h2 : h[id2]? = some (.vec [c] 1 g2)) (hlen : len ≤ cs.length) (hmax : len + 1 ≤ maxNeed) (ok1 : Okay h id) (ok2 : Okay h id2) (hw : 2 + wgt h ≤ 1099511627776) :
  memD E call thaw dst (.call ⟨.builtin .append, args, #[t, t]⟩) h [.sl id g 0 len, .sl id2 g2 0 1] = some (.sl id (g + 1) 0 (len + 1), h.set id (.vec (cs.take len ++ [c]) 1 (g + 1)), { ids := reach fuelR h [id, id2] [], ro := false, wr := [id] }) := by
 have hids : idsL [A.sl id g 0 len, A.sl id2 g2 0 1] = [id, id2] := rfl
 obtain ⟨c1, c2, c3⟩ := reach_all (h := h) (ids := [id, id2]) (by intro i hi; simp at hi; rcases hi with rfl | rfl; exact ok1; exact ok2) (by simpa using hw)
 obtain ⟨ord, hord⟩ : ∃ ord, reach fuelR h [id, id2] [] = ord := ⟨_, rfl⟩
 rw [hord] at c1 c2 c3
 obtain ⟨k, hk⟩ := place_is_some (c2 id (by simp))
 obtain ⟨k2, hk2⟩ := place_is_some (c2 id2 (by simp))
 have p1 := pack_at (h := h) (place_some hk) h1
 have p2 := pack_at (h := h) (place_some hk2) h2
 have kid : ∀ i, i ∈ ord → ∀ q ∈ kids h i, ∃ j, place ord q = some j := fun i hi q hq => place_is_some (c3 i hi q hq)
 have bk : ∀ xs : List A, (∀ i ∈ idsL xs, i ∈ ord) → mapAs (fun (k : Nat) => ord[k]?) (mapAs (place ord) xs) = xs := by
  intro xs hx
  rw [mapAs_mapAs (q := fun i => (place ord i).bind fun k => ord[k]?) (fun _ => rfl)]
  apply mapAs_fix
  intro i hi
  obtain ⟨j, hj⟩ := place_is_some (hx i hi)
  simp only [hj, Option.bind_some]
  exact place_some hj
 have hcs : ∀ i ∈ idsL cs, i ∈ ord := by
  have := c3 id (c2 id (by simp))
  simpa only [kids, h1] using this
 have hcc : ∀ i ∈ idsL [c], i ∈ ord := by
  have := c3 id2 (c2 id2 (by simp))
  simpa only [kids, h2] using this
 have hnew : ∀ i ∈ idsL (cs.take len ++ [c]), i ∈ ord := by
  intro i hi
  rw [idsL_app, List.mem_append] at hi
  rcases hi with hi | hi
  ·refine hcs i ?_
   have := List.take_append_drop len cs
   rw [← this, idsL_app, List.mem_append]
   exact .inl hi
  ·exact hcc i hi
 have hmt : (mapAs (place ord) cs).take len = mapAs (place ord) (cs.take len) := mapAs_take len cs
 have key := memD_set (E := E) (call := call) (thaw := thaw) (dst := dst) (op := .call ⟨.builtin .append, args, #[t, t]⟩) (h := h) (vs := [A.sl id g 0 len, A.sl id2 g2 0 1]) (a := .sl k (g + 1) 0 (len + 1)) (a2 := .sl id (g + 1) 0 (len + 1)) (o := .vec (mapAs (place ord) (cs.take len ++ [c])) 1 (g + 1)) (o2 := .vec (cs.take len ++ [c]) 1 (g + 1)) (id := id) (k := k) (ord := ord) (by rw [hids]; exact hord) (by rw [hids]; exact c1) hk rfl ?_ (by simp only [mapA, place_some hk]) (by simp only [mapO, bk _ hnew])
 ·rw [key, hord]
  rfl
 ·have hu : E.P.underlying t = some (.slice e) := by
   unfold elemT at he
   split at he
   ·rename_i hq; cases he; exact hq
   ·cases he
  have hv : isVec (pack h ord) k = true := by simp only [isVec, p1, mapO]
  have hs : sliceAs (pack h ord) 1 (.sl k2 g2 0 1) = some (1, mapAs (place ord) [c]) := by
   simp [sliceAs, p2, mapO, mapAs]
  simp only [mapAs, mapA, hk, hk2, evOp, asOper, evCallee, aBuiltin, aAppend, hv, if_true, aAppendV, he, hel, hce, hs, p1, mapO, true_and, or_true, Nat.mul_one, mapAs_len, hlen, hmax, and_self, hmt, mapAs_app, hu]
theorem memD_storeS {E : Env} {call : CallF} {thaw : List Nat} {dst : Option Tmp} {x y : Operand} {t : TypeId} {h : H} {id id2 off g o len : Nat} {cs : List A} (ht : E.P.cellsOf t = 1) (hi : (E.P.info? t).isSome = true)
  (h1 : h[id]? = some (.box cs)) (hoff : off + 1 ≤ cs.length) (ok1 : Okay h id) (ok2 : Okay h id2) (hw : 2 + wgt h ≤ 1099511627776) :
  memD E call thaw dst (.store t x y) h [.ptr id 0 off, .sl id2 g o len] = some (.d .undef, h.set id (.box (setRun cs off [.sl id2 g o len])), { ids := reach fuelR h [id, id2] [], ro := false, wr := reach fuelR h [id, id2] [] }) := by
 have hids : idsL [A.ptr id 0 off, A.sl id2 g o len] = [id, id2] := rfl
 obtain ⟨c1, c2, c3⟩ := reach_all (h := h) (ids := [id, id2]) (by intro i hi; simp at hi; rcases hi with rfl | rfl; exact ok1; exact ok2) (by simpa using hw)
 obtain ⟨ord, hord⟩ : ∃ ord, reach fuelR h [id, id2] [] = ord := ⟨_, rfl⟩
 rw [hord] at c1 c2 c3 ⊢
 obtain ⟨k, hk⟩ := place_is_some (c2 id (by simp))
 obtain ⟨k2, hk2⟩ := place_is_some (c2 id2 (by simp))
 have p1 := pack_at (h := h) (place_some hk) h1
 have bk : ∀ xs : List A, (∀ i ∈ idsL xs, i ∈ ord) → mapAs (fun (k : Nat) => ord[k]?) (mapAs (place ord) xs) = xs := by
  intro xs hx
  rw [mapAs_mapAs (q := fun i => (place ord i).bind fun k => ord[k]?) (fun _ => rfl)]
  apply mapAs_fix
  intro i hi
  obtain ⟨j, hj⟩ := place_is_some (hx i hi)
  simp only [hj, Option.bind_some]
  exact place_some hj
 have hcs : ∀ i ∈ idsL cs, i ∈ ord := by
  have := c3 id (c2 id (by simp))
  simpa only [kids, h1] using this
 have split_cs : ∀ q : Nat, (∀ i ∈ idsL (cs.take q), i ∈ ord) ∧ (∀ i ∈ idsL (cs.drop q), i ∈ ord) := by
  intro q
  have := List.take_append_drop q cs
  constructor
  ·intro i hi
   refine hcs i ?_
   rw [← this, idsL_app, List.mem_append]; exact .inl hi
  ·intro i hi
   refine hcs i ?_
   rw [← this, idsL_app, List.mem_append]; exact .inr hi
 have hnew : ∀ i ∈ idsL (setRun cs off [.sl id2 g o len]), i ∈ ord := by
  intro i hi
  unfold setRun at hi
  rw [idsL_app, idsL_app, List.mem_append, List.mem_append] at hi
  rcases hi with (hi | hi) | hi
  ·exact (split_cs _).1 i hi
  ·simp [idsL, idsA] at hi; subst hi; exact c2 i (by simp)
  ·exact (split_cs _).2 i hi
 have hmr : setRun (mapAs (place ord) cs) off [.sl k2 g o len] = mapAs (place ord) (setRun cs off [.sl id2 g o len]) := by
  unfold setRun
  rw [mapAs_app, mapAs_app, mapAs_take, mapAs_drop]
  simp only [mapAs, mapA, hk2, List.length_cons, List.length_nil]
 have key := memD_set (E := E) (call := call) (thaw := thaw) (dst := dst) (op := .store t x y) (h := h) (vs := [A.ptr id 0 off, A.sl id2 g o len]) (a := .d .undef) (a2 := .d .undef) (o := .box (mapAs (place ord) (setRun cs off [.sl id2 g o len]))) (o2 := .box (setRun cs off [.sl id2 g o len])) (id := id) (k := k) (ord := ord) (by rw [hids]; exact hord) (by rw [hids]; exact c1) hk rfl ?_ (by simp only [mapA]) (by simp only [mapO, bk _ hnew])
 ·rw [key]
  rfl
 ·have hoff2 : off + 1 ≤ (mapAs (place ord) cs).length := by rw [mapAs_len]; exact hoff
  simp only [mapAs, mapA, hk, hk2, evOp, asOper, two, aStore, cellsA, List.length_cons, List.length_nil, Nat.zero_add, ht, hi, List.all_cons, List.all_nil, okCell, Bool.and_self, and_self, if_true, p1, mapO, hoff2, thawCells, hmr, Option.map_some]
end Ev
end Go.Proofs.Ytppdfjdfjfoddaa
end
