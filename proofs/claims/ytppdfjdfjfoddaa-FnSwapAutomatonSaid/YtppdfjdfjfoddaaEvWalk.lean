/-
  How each operation goes, in the form in which the evaluator is walked.
-/
import Derived.Test.YtppdfjdfjfoddaaEvPrim
set_option linter.unusedSimpArgs false
set_option linter.unusedVariables false
namespace Go.Proofs.Ytppdfjdfjfoddaa
namespace Ev
section
variable {R : Type} {E : Env} {call : CallF} {thaw : List Nat} {dst : Option Tmp} {s : List A} {h : H} {k : A → H → Option R}
structure Now (p : Prop) : Prop where
 it : p
structure Shut (p : Prop) : Prop where
 it : p
inductive Box (α : Type) where
 | mk (a : α)
 | no
def box {α : Type} (a : α) : Box α := .mk a
theorem box_eq {α : Type} {a : α} : box a = .mk a := rfl
theorem xp6 {t : Nat} {q : A → Option R} : kv s (.tmp t) q = match box (s.getD t (.d .undef)) with | .no => none | .mk a => q a := rfl
theorem xpd {K : IntKind} {n : Int} {q : A → Option R} : kv s (.const (.int K n)) q = q (.d (.int K n)) := rfl
theorem xom {b : Bool} {q : A → Option R} : kv s (.const (.bool b)) q = q (.d (.bool b)) := rfl
theorem xp7 {b : ByteArray} {q : A → Option R} : kv s (.const (.string b)) q = match box b.data.toList with | .no => none | .mk l => q (.d (.str l)) := rfl
theorem xoo {q : A → Option R} : kv s (.const (.pointer none)) q = q (.d .nilp) := rfl
theorem xop {q : A → Option R} : kv s (.const (.slice none 0 0)) q = q (.d .nils) := rfl
theorem xol {f : FuncId} {q : A → Option R} : kv s (.func f) q = q (.clo f []) := rfl
theorem xp5 {cs : Array Value} {q : A → Option R} : kv s (.const (.agg cs)) q = match aScalars cs.toList with
  | some as => q (.agg as)
  | none => none := by
 unfold kv; simp only [aEval, aConst]
 cases aScalars cs.toList <;> rfl
theorem kvs_nil {q : List A → Option R} : kvs s [] q = q [] := rfl
theorem kvs_cons {x : Operand} {xs : List Operand} {q : List A → Option R} : kvs s (x :: xs) q = kv s x fun a => kvs s xs fun as => q (a :: as) := by
 unfold kvs kv
 simp only [aEvals]
 cases aEval s x with
 | none => rfl
 | some a => cases aEvals s xs <;> rfl
theorem kGuard_none {yes no : List A → Option R} : kGuard none s yes no = yes s := rfl
theorem kGuard_some {t : Nat} {w : Bool} {yes no : List A → Option R} : kGuard (some (some t, w)) s yes no = match s.getD t .junk with
  | .d (.bool b) => if b = w then (match box (s.set t (.d (.bool w))) with | .no => none | .mk s => yes s) else (match box (s.set t (.d (.bool (!w)))) with | .no => none | .mk s => no s)
  | .d .undef => no s
  | _ => none := by
 simp only [kGuard, List.getD_eq_getElem?_getD]
 cases s[t]? with
 | none => rfl
 | some a =>
  cases a with
  | d x => cases x <;> rfl
  | _ => rfl
theorem kOp_move {x : Operand} : kOp E call thaw dst (.move x) s h k = kv s x fun a => k a h := by
 unfold kOp kvs kv
 simp only [opds, aEvals]
 cases aEval s x <;> rfl
def kAsg (thaw : List Nat) (dst : Option Tmp) (h : H) (k : A → H → Option R) (a : A) : Option R :=
 match a with
 | .d .nils => match thawAt thaw dst with
  | 0 => k (.d .nils) h
  | e + 1 => if e < 1000 then k (.sl h.length 0 0 0) (h ++ [.arr [] e 0]) else k (.sl h.length 0 0 0) (h ++ [.vec [] (e - 1000) 0])
 | a => k a h
theorem kOp_assign_tmp {t : Nat} : kOp E call thaw dst (.assign (.tmp t)) s h k = match box (s.getD t (.d .undef)) with | .no => none | .mk a => k a h := by
 unfold kOp kvs
 simp only [opds, aEvals, aEval, isCall, Bool.false_eq_true, if_false]
 rfl
theorem kOp_assign_const {v : Value} : kOp E call thaw dst (.assign (.const v)) s h k = kv s (.const v) (kAsg thaw dst h k) := by
 unfold kOp kvs kv kAsg
 simp only [opds, aEvals]
 cases aEval s (.const v) with
 | none => rfl
 | some a =>
  simp only [isCall, Bool.false_eq_true, if_false, evOp, one, evAssign, asOper]
  cases a with
  | d x =>
   cases x with
   | nils => cases ht : thawAt thaw dst with
    | zero => simp [ht]
    | succ e => by_cases he : e < 1000 <;> simp [ht, he]
   | _ => rfl
  | _ => rfl
theorem kOp_assign_func {f : FuncId} : kOp E call thaw dst (.assign (.func f)) s h k = k (.clo f []) h := by
 rfl
def kRet (r : Option (A × H)) (k : A → H → Option R) : Option R :=
 match r with
 | some (a, h') => k a h'
 | none => none
theorem kOp_bin {op : BinOp} {t : TypeId} {x y : Operand} {t2 : TypeId} : kOp E call thaw dst (.binOp op t x y t2) s h k = kv s x fun a => kv s y fun b => kRet (evBin E op t h a b) k := by
 unfold kOp kvs kv kRet
 simp only [opds, aEvals]
 cases aEval s x with
 | none => rfl
 | some a => cases aEval s y <;> rfl
theorem kOp_un {op : UnOp} {t : TypeId} {x : Operand} : kOp E call thaw dst (.unOp op t x) s h k = kv s x fun a => kRet ((aUn op a).map fun r => (r, h)) k := by
 unfold kOp kvs kv kRet
 simp only [opds, aEvals]
 cases aEval s x <;> rfl
theorem kOp_pick {c x y : Operand} : kOp E call thaw dst (.pick c x y) s h k = kv s c fun b => kv s x fun a => kv s y fun a' => kRet (evPick h [b, a, a']) k := by
 unfold kOp kvs kv kRet
 simp only [opds, aEvals]
 cases aEval s c with
 | none => rfl
 | some b => cases aEval s x with
  | none => rfl
  | some a => cases aEval s y <;> rfl
theorem kOp_nilCheck {x : Operand} : kOp E call thaw dst (.nilCheck x) s h k = kv s x fun a => kRet (evNilCheck h a) k := by
 unfold kOp kvs kv kRet
 simp only [opds, aEvals]
 cases aEval s x <;> rfl
theorem kOp_conv {t u : TypeId} {x : Operand} : kOp E call thaw dst (.convert t u x) s h k = kv s x fun a => kRet (aConvert E.P h t u a) k := by
 unfold kOp kvs kv kRet
 simp only [opds, aEvals]
 cases aEval s x <;> rfl
theorem kOp_load {t : TypeId} {x : Operand} : kOp E call thaw dst (.load t x) s h k = kv s x fun a => kRet ((aLoad E.P h t a).map fun v => (v, h)) k := by
 unfold kOp kvs kv kRet
 simp only [opds, aEvals]
 cases aEval s x <;> rfl
theorem kOp_store {t : TypeId} {x y : Operand} : kOp E call thaw dst (.store t x y) s h k = kv s x fun a => kv s y fun b => kRet ((aStore E.P h t a b).map fun h' => (.d .undef, h')) k := by
 unfold kOp kvs kv kRet
 simp only [opds, aEvals]
 cases aEval s x with
 | none => rfl
 | some a => cases aEval s y <;> rfl
theorem kOp_alloc {t : TypeId} : kOp E call thaw dst (.alloc t) s h k = match box (zeroA E.P t) with
  | .no => none
  | .mk none => none
  | .mk (some z) => kRet (aNew h z) k := by
 unfold kOp kvs kRet
 simp only [opds, aEvals, isCall, Bool.false_eq_true, if_false, evOp, asOper, box]
 cases zeroA E.P t <;> rfl
theorem kOp_box {t : TypeId} {x : Operand} : kOp E call thaw dst (.box t x) s h k = kv s x fun a => kRet (aNew h a) k := by
 unfold kOp kvs kv kRet
 simp only [opds, aEvals]
 cases aEval s x <;> rfl
theorem kOp_build {t : TypeId} {ps : List (Nat × Operand)} : kOp E call thaw dst (.build t ps.toArray) s h k = match box (ps.map (·.2)) with
  | .no => none
  | .mk xs => kvs s xs fun vs => kRet ((aBuild E.P t ((ps.map (·.1)).zip vs)).map fun a => (a, h)) k := by
 unfold kOp kRet
 rfl
theorem kOp_buildSlice {t : TypeId} {n : Nat} {ps : List (Nat × Operand)} : kOp E call thaw dst (.buildSlice t n ps.toArray) s h k = match box (ps.map (·.2)) with
  | .no => none
  | .mk xs => kvs s xs fun vs => kRet (if keeps thaw dst = true then aBuildVec E.P h t n ((ps.map (·.1)).zip vs) else aBuildSlice E.P h t n ((ps.map (·.1)).zip vs)) k := by
 unfold kOp kRet
 rfl
theorem kOp_makeFunc {fn : Fn} {cap : List Operand} : kOp E call thaw dst (.makeFunc fn #[] cap.toArray) s h k = kvs s cap fun vs => kRet (evFunc h fn true vs) k := by
 unfold kOp kRet
 rfl
theorem kOp_makeSlice {t : TypeId} {x y : Operand} : kOp E call thaw dst (.makeSlice t x y) s h k = kv s x fun a => kv s y fun b => kRet (withInt a fun l => withInt b fun c => if keeps thaw dst = true then aMakeVec E.P h t l c else aMakeSlice E.P h t l c) k := by
 unfold kOp kvs kv kRet
 simp only [opds, aEvals]
 cases aEval s x with
 | none => rfl
 | some a => cases aEval s y <;> rfl
theorem kOp_slice00 {t : TypeId} {x : Operand} : kOp E call thaw dst (.slice t x none none none) s h k = kvs s [x] fun vs => kRet (evSlice E.P h t false false vs) k := rfl
theorem kOp_slice10 {t : TypeId} {x lo : Operand} : kOp E call thaw dst (.slice t x (some lo) none none) s h k = kvs s [x, lo] fun vs => kRet (evSlice E.P h t true false vs) k := rfl
theorem kOp_slice01 {t : TypeId} {x hi : Operand} : kOp E call thaw dst (.slice t x none (some hi) none) s h k = kvs s [x, hi] fun vs => kRet (evSlice E.P h t false true vs) k := rfl
theorem kOp_slice11 {t : TypeId} {x lo hi : Operand} : kOp E call thaw dst (.slice t x (some lo) (some hi) none) s h k = kvs s [x, lo, hi] fun vs => kRet (evSlice E.P h t true true vs) k := rfl
theorem kOp_fieldAddr {t : TypeId} {x : Operand} {f : Nat} : kOp E call thaw dst (.fieldAddr t x f) s h k = kv s x fun a => kRet ((fieldOff E.P t f).bind fun r => (aMove r.1 a).map fun r => (r, h)) k := by
 unfold kOp kvs kv kRet
 simp only [opds, aEvals]
 cases aEval s x <;> rfl
theorem kOp_field {t : TypeId} {x : Operand} {f : Nat} : kOp E call thaw dst (.field t x f) s h k = kv s x fun a => kRet (evField E.P h t f a) k := by
 unfold kOp kvs kv kRet
 simp only [opds, aEvals]
 cases aEval s x <;> rfl
theorem kOp_indexAddr {t : TypeId} {x y : Operand} : kOp E call thaw dst (.indexAddr t x y) s h k = kv s x fun a => kv s y fun b => kRet (withInt b fun i => (aIndexAddr E.P h t a i).map fun r => (r, h)) k := by
 unfold kOp kvs kv kRet
 simp only [opds, aEvals]
 cases aEval s x with
 | none => rfl
 | some a => cases aEval s y <;> rfl
theorem kOp_index {t : TypeId} {x y : Operand} : kOp E call thaw dst (.index t x y) s h k = kv s x fun a => kv s y fun b => kRet (withInt b fun i => (aIndex E.P t a i).map fun r => (r, h)) k := by
 unfold kOp kvs kv kRet
 simp only [opds, aEvals]
 cases aEval s x with
 | none => rfl
 | some a => cases aEval s y <;> rfl
theorem kOp_makeMap {t : TypeId} : kOp E call thaw dst (.makeMap t none) s h k = k (.mp h.length) (h ++ [.mp []]) := rfl
theorem kOp_lookup {t : TypeId} {x y : Operand} {ok : Bool} : kOp E call thaw dst (.lookup t x y ok) s h k = kv s x fun a => kv s y fun b => kRet (aLookup E.P h t ok a b) k := by
 unfold kOp kvs kv kRet
 simp only [opds, aEvals]
 cases aEval s x with
 | none => rfl
 | some a => cases aEval s y <;> rfl
theorem kOp_mapUpdate {t : TypeId} {x y z : Operand} : kOp E call thaw dst (.mapUpdate t x y z) s h k = kv s x fun a => kv s y fun b => kv s z fun c => kRet (aMapUpdate E.P h t a b c) k := by
 unfold kOp kvs kv kRet
 simp only [opds, aEvals]
 cases aEval s x with
 | none => rfl
 | some a => cases aEval s y with
  | none => rfl
  | some b => cases aEval s z <;> rfl
theorem kOp_extract {x : Operand} {i : Nat} : kOp E call thaw dst (.extract x i) s h k = kv s x fun a => kRet (evExtract h i a) k := by
 unfold kOp kvs kv kRet
 simp only [opds, aEvals]
 cases aEval s x <;> rfl
theorem kOp_builtin {b : Builtin} {args : List Operand} {tys : List TypeId} : kOp E call thaw dst (.call ⟨.builtin b, args.toArray, tys.toArray⟩) s h k = kvs s args fun vs => kRet (aBuiltin E.P h b tys vs) k := by
 unfold kOp kRet
 rfl
theorem kOpD_pure {op : Op} {q : A → H → Foot → Option R} (hp : Now (pureOp op = true ∧ isCall op = false)) : kOpD E call thaw dst op s h q = kOp E call thaw dst op s h fun a _ => q a h {} := by
 obtain ⟨hp, hc⟩ := hp.it
 unfold kOpD kOp kvs
 rw [hp, hc]
 cases aEvals s (opds op) with
 | none => rfl
 | some vs =>
  simp only [if_true, Bool.false_eq_true, if_false]
def memD (E : Env) (call : CallF) (thaw : List Nat) (dst : Option Tmp) (op : Op) (h : H) (vs : List A) : Option (A × H × Foot) := match box (reach fuelR h (idsL vs) []) with
 | .no => none
 | .mk ord => match box (evOp E call thaw (pack h ord) (asOper dst op) (mapAs (place ord) vs)) with
  | .mk (some (a, h1)) => if ord.length ≤ h1.length ∧ closed h ord (idsL vs) = true then
    (if (readOp E op vs && h1.length - ord.length == 0) = true then some (mapA (back ord h.length h1.length) a, h, { ids := ord, ro := true })
    else some (mapA (back ord h.length h1.length) a, putBack (back ord h.length h1.length) h ord h1, { ids := ord ++ List.range' h.length (h1.length - ord.length), ro := false, wr := wrOf E op vs ord ++ List.range' h.length (h1.length - ord.length) }))
   else none
  | _ => none
theorem kOpD_mem {op : Op} {q : A → H → Foot → Option R} (hp : Now (pureOp op = false ∧ shallow op = false)) : kOpD E call thaw dst op s h q = match box (opds op) with | .no => none | .mk xs => kvs s xs fun vs => match box (memD E call thaw dst op h vs) with
  | .mk (some (a, h', c)) => q a h' c
  | _ => none := by
 simp only [box]
 unfold kOpD kvs
 rw [hp.it.1, hp.it.2]
 cases aEvals s (opds op) with
 | none => rfl
 | some vs =>
  simp only [Bool.false_eq_true, if_false, evOpF, memD, box]
  cases evOp E call thaw (pack h (reach fuelR h (idsL vs) [])) (asOper dst op) (mapAs (place (reach fuelR h (idsL vs) [])) vs) with
  | none => rfl
  | some r =>
   obtain ⟨a, h1⟩ := r
   by_cases hc : (reach fuelR h (idsL vs) []).length ≤ h1.length ∧ closed h (reach fuelR h (idsL vs) []) (idsL vs) = true
   ·simp only [if_pos hc]
    by_cases hr : (readOp E op vs && h1.length - (reach fuelR h (idsL vs) []).length == 0) = true
    ·simp only [if_pos hr]
    ·simp only [if_neg hr]
   ·simp only [if_neg hc]
theorem kOpD_shal {op : Op} {q : A → H → Foot → Option R} (hp : Now (pureOp op = false ∧ shallow op = true ∧ isCall op = false)) : kOpD E call thaw dst op s h q = kvs s (opds op) fun vs => kOp E call thaw dst op s h fun a _ => q a h { ids := ids0 vs, ro := true } := by
 unfold kOpD kOp kvs
 rw [hp.it.1, hp.it.2.1, hp.it.2.2]
 cases aEvals s (opds op) with
 | none => rfl
 | some vs => simp only [Bool.false_eq_true, if_false, if_true]
theorem kvs_head {x : Operand} {xs : List Operand} {op : Op} {q : A → H → Foot → Option R} (hx : opds op = x :: xs) : (kvs s (opds op) fun vs => kOp E call thaw dst op s h fun a _ => q a h { ids := ids0 vs, ro := true }) = kv s x fun b => kOp E call thaw dst op s h fun a _ => q a h { ids := idsA b, ro := true } := by
 unfold kOp kv
 rw [hx]
 unfold kvs
 simp only [aEvals]
 cases aEval s x with
 | none => rfl
 | some b =>
  cases aEvals s xs with
  | none => rfl
  | some bs => rfl
theorem kOpD_load {t : TypeId} {x : Operand} {q : A → H → Foot → Option R} : kOpD E call thaw dst (.load t x) s h q = kv s x fun b => kOp E call thaw dst (.load t x) s h fun a _ => q a h { ids := idsA b, ro := true } := (kOpD_shal ⟨rfl, rfl, rfl⟩).trans (kvs_head rfl)
theorem kOpD_lookup {t : TypeId} {x y : Operand} {ok : Bool} {q : A → H → Foot → Option R} : kOpD E call thaw dst (.lookup t x y ok) s h q = kv s x fun b => kOp E call thaw dst (.lookup t x y ok) s h fun a _ => q a h { ids := idsA b, ro := true } := (kOpD_shal ⟨rfl, rfl, rfl⟩).trans (kvs_head rfl)
theorem kOpD_makeMap {t : TypeId} {q : A → H → Foot → Option R} : type_of% (kOpD_mem (E := E) (call := call) (thaw := thaw) (dst := dst) (s := s) (h := h) (op := .makeMap t none) (q := q) ⟨rfl, rfl⟩) := kOpD_mem ⟨rfl, rfl⟩
theorem kOpD_mapUpdate {t : TypeId} {x y z : Operand} {q : A → H → Foot → Option R} : type_of% (kOpD_mem (E := E) (call := call) (thaw := thaw) (dst := dst) (s := s) (h := h) (op := .mapUpdate t x y z) (q := q) ⟨rfl, rfl⟩) := kOpD_mem ⟨rfl, rfl⟩
theorem kOpD_store {t : TypeId} {x y : Operand} {q : A → H → Foot → Option R} : type_of% (kOpD_mem (E := E) (call := call) (thaw := thaw) (dst := dst) (s := s) (h := h) (op := .store t x y) (q := q) ⟨rfl, rfl⟩) := kOpD_mem ⟨rfl, rfl⟩
theorem kOpD_assign {x : Operand} {q : A → H → Foot → Option R} : type_of% (kOpD_mem (E := E) (call := call) (thaw := thaw) (dst := dst) (s := s) (h := h) (op := .assign x) (q := q) ⟨rfl, rfl⟩) := kOpD_mem ⟨rfl, rfl⟩
theorem kOpD_alloc {t : TypeId} {q : A → H → Foot → Option R} : type_of% (kOpD_mem (E := E) (call := call) (thaw := thaw) (dst := dst) (s := s) (h := h) (op := .alloc t) (q := q) ⟨rfl, rfl⟩) := kOpD_mem ⟨rfl, rfl⟩
theorem kOpD_box {t : TypeId} {x : Operand} {q : A → H → Foot → Option R} : type_of% (kOpD_mem (E := E) (call := call) (thaw := thaw) (dst := dst) (s := s) (h := h) (op := .box t x) (q := q) ⟨rfl, rfl⟩) := kOpD_mem ⟨rfl, rfl⟩
theorem kOpD_buildSlice {t : TypeId} {n : Nat} {ps : List (Nat × Operand)} {q : A → H → Foot → Option R} : type_of% (kOpD_mem (E := E) (call := call) (thaw := thaw) (dst := dst) (s := s) (h := h) (op := .buildSlice t n ps.toArray) (q := q) ⟨rfl, rfl⟩) := kOpD_mem ⟨rfl, rfl⟩
theorem kOpD_conv {t u : TypeId} {x : Operand} {q : A → H → Foot → Option R} : type_of% (kOpD_mem (E := E) (call := call) (thaw := thaw) (dst := dst) (s := s) (h := h) (op := .convert t u x) (q := q) ⟨rfl, rfl⟩) := kOpD_mem ⟨rfl, rfl⟩
theorem kOpD_makeSlice {t : TypeId} {x y : Operand} {q : A → H → Foot → Option R} : type_of% (kOpD_mem (E := E) (call := call) (thaw := thaw) (dst := dst) (s := s) (h := h) (op := .makeSlice t x y) (q := q) ⟨rfl, rfl⟩) := kOpD_mem ⟨rfl, rfl⟩
theorem kOpD_slice {t : TypeId} {x : Operand} {lo hi mx : Option Operand} {q : A → H → Foot → Option R} : kOpD E call thaw dst (.slice t x lo hi mx) s h q = kv s x fun b => kOp E call thaw dst (.slice t x lo hi mx) s h fun a _ => q a h { ids := idsA b, ro := true } := (kOpD_shal ⟨rfl, rfl, rfl⟩).trans (kvs_head rfl)
theorem kOpD_indexAddr {t : TypeId} {x y : Operand} {q : A → H → Foot → Option R} : kOpD E call thaw dst (.indexAddr t x y) s h q = kv s x fun b => kOp E call thaw dst (.indexAddr t x y) s h fun a _ => q a h { ids := idsA b, ro := true } := (kOpD_shal ⟨rfl, rfl, rfl⟩).trans (kvs_head rfl)
theorem kOpD_append {args tys : Array _} {q : A → H → Foot → Option R} : type_of% (kOpD_mem (E := E) (call := call) (thaw := thaw) (dst := dst) (s := s) (h := h) (op := .call ⟨.builtin .append, args, tys⟩) (q := q) ⟨rfl, rfl⟩) := kOpD_mem ⟨rfl, rfl⟩
theorem kOpD_len {x : Operand} {xs : List Operand} {tys : Array _} {q : A → H → Foot → Option R} : kOpD E call thaw dst (.call ⟨.builtin .len, (x :: xs).toArray, tys⟩) s h q = kv s x fun b => kOp E call thaw dst (.call ⟨.builtin .len, (x :: xs).toArray, tys⟩) s h fun a _ => q a h { ids := idsA b, ro := true } := (kOpD_shal ⟨rfl, rfl, rfl⟩).trans (kvs_head rfl)
theorem kOpD_move {x : Operand} {q : A → H → Foot → Option R} : type_of% (kOpD_pure (E := E) (call := call) (thaw := thaw) (dst := dst) (s := s) (h := h) (op := .move x) (q := q) ⟨rfl, rfl⟩) := kOpD_pure ⟨rfl, rfl⟩
theorem kOpD_pick {c x y : Operand} {q : A → H → Foot → Option R} : type_of% (kOpD_pure (E := E) (call := call) (thaw := thaw) (dst := dst) (s := s) (h := h) (op := .pick c x y) (q := q) ⟨rfl, rfl⟩) := kOpD_pure ⟨rfl, rfl⟩
theorem kOpD_nilCheck {x : Operand} {q : A → H → Foot → Option R} : type_of% (kOpD_pure (E := E) (call := call) (thaw := thaw) (dst := dst) (s := s) (h := h) (op := .nilCheck x) (q := q) ⟨rfl, rfl⟩) := kOpD_pure ⟨rfl, rfl⟩
theorem kOpD_bin {op : BinOp} {t : TypeId} {x y : Operand} {t2 : TypeId} {q : A → H → Foot → Option R} : type_of% (kOpD_pure (E := E) (call := call) (thaw := thaw) (dst := dst) (s := s) (h := h) (op := .binOp op t x y t2) (q := q) ⟨rfl, rfl⟩) := kOpD_pure ⟨rfl, rfl⟩
theorem kOpD_un {op : UnOp} {t : TypeId} {x : Operand} {q : A → H → Foot → Option R} : type_of% (kOpD_pure (E := E) (call := call) (thaw := thaw) (dst := dst) (s := s) (h := h) (op := .unOp op t x) (q := q) ⟨rfl, rfl⟩) := kOpD_pure ⟨rfl, rfl⟩
theorem kOpD_makeFunc {fn : Fn} {first cap : Array Operand} {q : A → H → Foot → Option R} : type_of% (kOpD_pure (E := E) (call := call) (thaw := thaw) (dst := dst) (s := s) (h := h) (op := .makeFunc fn first cap) (q := q) ⟨rfl, rfl⟩) := kOpD_pure ⟨rfl, rfl⟩
theorem kOpD_fieldAddr {t : TypeId} {x : Operand} {f : Nat} {q : A → H → Foot → Option R} : type_of% (kOpD_pure (E := E) (call := call) (thaw := thaw) (dst := dst) (s := s) (h := h) (op := .fieldAddr t x f) (q := q) ⟨rfl, rfl⟩) := kOpD_pure ⟨rfl, rfl⟩
theorem kOpD_field {t : TypeId} {x : Operand} {f : Nat} {q : A → H → Foot → Option R} : type_of% (kOpD_pure (E := E) (call := call) (thaw := thaw) (dst := dst) (s := s) (h := h) (op := .field t x f) (q := q) ⟨rfl, rfl⟩) := kOpD_pure ⟨rfl, rfl⟩
theorem kOpD_index {t : TypeId} {x y : Operand} {q : A → H → Foot → Option R} : type_of% (kOpD_pure (E := E) (call := call) (thaw := thaw) (dst := dst) (s := s) (h := h) (op := .index t x y) (q := q) ⟨rfl, rfl⟩) := kOpD_pure ⟨rfl, rfl⟩
theorem kOpD_extract {x : Operand} {i : Nat} {q : A → H → Foot → Option R} : type_of% (kOpD_pure (E := E) (call := call) (thaw := thaw) (dst := dst) (s := s) (h := h) (op := .extract x i) (q := q) ⟨rfl, rfl⟩) := kOpD_pure ⟨rfl, rfl⟩
theorem kOpD_build {t : TypeId} {ps : Array (Nat × Operand)} {q : A → H → Foot → Option R} : type_of% (kOpD_pure (E := E) (call := call) (thaw := thaw) (dst := dst) (s := s) (h := h) (op := .build t ps) (q := q) ⟨rfl, rfl⟩) := kOpD_pure ⟨rfl, rfl⟩
def clash2 (a b : Foot) : Bool := (!a.ro && (!b.ids.isEmpty && a.wr.any b.ids.contains)) || (!b.ro && (!a.ids.isEmpty && b.wr.any a.ids.contains))
theorem any_none {l : List Nat} : l.any (([] : List Nat)).contains = false := by
 induction l with
 | nil => rfl
 | cons a l ih => simp [ih]
theorem clash2_eq (a b : Foot) : clash2 a b = clash a b := by
 obtain ⟨ia, ra, wa⟩ := a
 obtain ⟨ib, rb, wb⟩ := b
 unfold clash2 clash
 cases ia <;> cases ib <;> simp
def clashFree2 (ops : List Oper) (cs : List Foot) : Bool :=
 let b := masks ops []
 (List.range cs.length).all fun j => (List.range j).all fun i => (b.getD j 0).testBit i || !clash2 (cs.getD i {}) (cs.getD j {})
theorem clash2_of {src : List Oper} {cs : List Foot} (h : clashFree src cs = true) : clashFree2 src cs = true := by
 unfold clashFree2
 simp only [clash2_eq]
 exact h
theorem clash_free {src : List Oper} {cs : List Foot} {x : Option R} (hc : Shut (clashFree2 src cs = true)) : (if clashFree src cs = true then x else none) = x := if_pos (by
 have := hc.it
 unfold clashFree2 at this
 simp only [clash2_eq] at this
 exact this)
theorem kOps_nil {q : List A → H → Option R} : kOps E call thaw [] s h q = q s h := rfl
theorem kOps_cons {op : Op} {g : Option (Option Tmp × Bool)} {os : List SO} {q : List A → H → Option R} : kOps E call thaw (⟨dst, op, g⟩ :: os) s h q = kGuard g s
  (fun s => kOp E call thaw dst op s h fun a h' => match box (aPut s dst a) with | .no => none | .mk s' => kOps E call thaw os s' h' q)
  (fun s => match box (aPut s dst (.d .undef)) with | .no => none | .mk s' => kOps E call thaw os s' h q) := rfl
theorem kOpsD_nil {cs : List Foot} {q : List A → H → List Foot → Option R} : kOpsD E call thaw [] s h cs q = q s h cs := rfl
theorem kOpsD_cons {op : Op} {g : Option (Option Tmp × Bool)} {os : List SO} {cs : List Foot} {q : List A → H → List Foot → Option R} : kOpsD E call thaw (⟨dst, op, g⟩ :: os) s h cs q = kGuard g s
  (fun s => kOpD E call thaw dst op s h fun a h' c => match box (aPut s dst a) with | .no => none | .mk s' => kOpsD E call thaw os s' h' (cs ++ [c]) q)
  (fun s => match box (aPut s dst (.d .undef)) with | .no => none | .mk s' => kOpsD E call thaw os s' h (cs ++ [{}]) q) := rfl
section
variable {L nf : Nat} {live : List Bool} {lp : Nat → Code} {q : Exit → List A → H → Option R}
theorem kCode_skip : kCode E call L nf thaw live lp .skip s h q = q .normal s h := rfl
theorem kCode_ops {l : List SO} : kCode E call L nf thaw live lp (.ops l) s h q = kOps E call thaw l s h fun s h => q .normal s h := rfl
theorem kCode_drawn {l : List SO} {src : Array Oper} : kCode E call L nf thaw live lp (.drawn l src) s h q = kOpsD E call thaw l s h [] fun s h cs => if clashFree src.toList cs = true then q .normal s h else none := rfl
theorem kCode_seq {a b : SC} : kCode E call L nf thaw live lp (.seq a b) s h q = kCode E call L nf thaw live lp a s h fun e s h => match e with
  | .normal => kCode E call L nf thaw live lp b s h q
  | e => q e s h := rfl
theorem kCode_cond {c : Operand} {x y : SC} : kCode E call L nf thaw live lp (.cond c x y) s h q = kv s c fun a => match a with
  | .d (.bool b) => if b = true then kCode E call L nf thaw live lp x s h q else kCode E call L nf thaw live lp y s h q
  | _ => none := rfl
theorem kCode_block {id : Nat} {c : SC} : kCode E call L nf thaw live lp (.block id c) s h q = kCode E call L nf thaw live lp c s h fun e s h => match e with
  | .exit i => if i = id then q .normal s h else q (.exit i) s h
  | e => q e s h := rfl
theorem kCode_loop {i : Nat} : kCode E call L nf thaw live lp (.loop i) s h q = match box (maskB live s) with
  | .no => none
  | .mk m => match box (gc nf m s h) with
   | .mk (s', h') => kLoop E call L nf thaw live (lp i) m L s' h' q
   | .no => none := rfl
theorem kCode_exit {id : Nat} : kCode E call L nf thaw live lp (.exit id) s h q = q (.exit id) s h := rfl
theorem kCode_ret : kCode E call L nf thaw live lp .ret s h q = q .ret s h := rfl
theorem kNext_normal {c : Code} {m : List Bool} {n : Nat} : kNext E call L nf thaw live c m n q .normal s h = match box (gc nf m s h) with
  | .mk (s', h') => kLoop E call L nf thaw live c m n s' h' q
  | .no => none := rfl
theorem kNext_exit {c : Code} {m : List Bool} {n i : Nat} : kNext E call L nf thaw live c m n q (.exit i) s h = match box (gc nf m s h) with
  | .mk (s', h') => q (.exit i) s' h'
  | .no => none := rfl
theorem kNext_ret {c : Code} {m : List Bool} {n : Nat} : kNext E call L nf thaw live c m n q .ret s h = match box (gc nf m s h) with
  | .mk (s', h') => q .ret s' h'
  | .no => none := rfl
end
def kCall (E : Env) (call : CallF) (h : H) (f : FuncId) (args : List A) (k : A → H → Option R) : Option R :=
 match aCall call E.hint (pack h (reach fuelR h (idsL args) [])) f (mapAs (place (reach fuelR h (idsL args) [])) args) with
 | some (a, h1) =>
  if (reach fuelR h (idsL args) []).length ≤ h1.length ∧ closed h (reach fuelR h (idsL args) []) (idsL args) = true then
   k (mapA (back (reach fuelR h (idsL args) []) h.length h1.length) a) (putBack (back (reach fuelR h (idsL args) []) h.length h1.length) h (reach fuelR h (idsL args) []) h1)
  else none
 | none => none
theorem kOp_call {f : FuncId} {args : List Operand} {tys : Array TypeId} : kOp E call thaw dst (.call ⟨.value (.func f), args.toArray, tys⟩) s h k = kvs s args fun vs => kCall E call h f vs k := by
 unfold kOp kvs kCall
 simp only [opds, aEvals, aEval]
 cases aEvals s args with
 | none => rfl
 | some vs =>
  simp only [isCall, if_true, evOpF, idsL, idsA, List.nil_append, mapAs, mapA, evOp, evCallee, aCallee, asOper, List.append_nil]
  cases aCall call E.hint (pack h (reach fuelR h (idsL vs) [])) f (mapAs (place (reach fuelR h (idsL vs) [])) vs) with
  | none => rfl
  | some r =>
   obtain ⟨a, h1⟩ := r
   by_cases c1 : (reach fuelR h (idsL vs) []).length ≤ h1.length <;> by_cases c2 : closed h (reach fuelR h (idsL vs) []) (idsL vs) = true <;> simp [c1, c2]
theorem kOp_callB {f : FuncId} {args : List Operand} {tys : Array TypeId} : kOp E call thaw dst (.call ⟨.value (.func f), args.toArray, tys⟩) s h k = kvs s args fun vs => kCall E call h f vs fun a h' => match box h' with | .no => none | .mk h'' => k a h'' := by
 rw [kOp_call]
 rfl
def kCallC (E : Env) (call : CallF) (h : H) (f : FuncId) (caps args : List A) (k : A → H → Option R) : Option R :=
 match aCall call E.hint (pack h (reach fuelR h (idsL caps ++ idsL args) [])) f (mapAs (place (reach fuelR h (idsL caps ++ idsL args) [])) args ++ mapAs (place (reach fuelR h (idsL caps ++ idsL args) [])) caps) with
 | some (a, h1) =>
  if (reach fuelR h (idsL caps ++ idsL args) []).length ≤ h1.length ∧ closed h (reach fuelR h (idsL caps ++ idsL args) []) (idsL caps ++ idsL args) = true then
   k (mapA (back (reach fuelR h (idsL caps ++ idsL args) []) h.length h1.length) a) (putBack (back (reach fuelR h (idsL caps ++ idsL args) []) h.length h1.length) h (reach fuelR h (idsL caps ++ idsL args) []) h1)
  else none
 | none => none
def kCallV (E : Env) (call : CallF) (h : H) (g : A) (args : List A) (k : A → H → Option R) : Option R :=
 match g with
 | .d (.fn f caps) => kCall E call h f (args ++ caps.map .d) k
 | .clo f caps => kCallC E call h f caps args k
 | _ => none
theorem idsL_app : ∀ (as bs : List A), idsL (as ++ bs) = idsL as ++ idsL bs
 | [], bs => by simp [idsL]
 | a :: as, bs => by simp [idsL, idsL_app as bs]
theorem idsL_d : ∀ (ds : List D), idsL (ds.map .d) = []
 | [] => by simp [idsL]
 | d :: ds => by simp [idsL, idsA, idsL_d ds]
theorem mapAs_app {f : Nat → Option Nat} : ∀ (as bs : List A), mapAs f (as ++ bs) = mapAs f as ++ mapAs f bs
 | [], bs => by simp [mapAs]
 | a :: as, bs => by simp [mapAs, mapAs_app as bs]
theorem mapAs_d {f : Nat → Option Nat} : ∀ (ds : List D), mapAs f (ds.map .d) = ds.map .d
 | [] => by simp [mapAs]
 | d :: ds => by simp [mapAs, mapA, mapAs_d ds]
theorem kCallV_eq {g : A} {vs : List A} {tys : Array TypeId} {x : Operand} {args : Array Operand} : (match evOpF E call thaw h (asOper dst (.call ⟨.value x, args, tys⟩)) (g :: vs) with
   | some (a, h', _) => k a h'
   | none => none) = kCallV E call h g vs k := by
 unfold evOpF
 simp only [evOp, evCallee, asOper, mapAs]
 cases g with
 | d y =>
  cases y with
  | fn f caps =>
   simp only [kCallV, kCall, mapA, aCallee, idsL, idsA, List.nil_append, idsL_app, idsL_d, List.append_nil, mapAs_app, mapAs_d]
   cases aCall call E.hint (pack h (reach fuelR h (idsL vs) [])) f (mapAs (place (reach fuelR h (idsL vs) [])) vs ++ caps.map .d) with
   | none => rfl
   | some r =>
    obtain ⟨a, h1⟩ := r
    by_cases c1 : (reach fuelR h (idsL vs) []).length ≤ h1.length <;> by_cases c2 : closed h (reach fuelR h (idsL vs) []) (idsL vs) = true <;> simp [c1, c2]
  | _ => simp only [kCallV, mapA, aCallee]
 | clo f caps =>
  simp only [kCallV, kCallC, mapA, aCallee, idsL, idsA]
  cases aCall call E.hint (pack h (reach fuelR h (idsL caps ++ idsL vs) [])) f (mapAs (place (reach fuelR h (idsL caps ++ idsL vs) [])) vs ++ mapAs (place (reach fuelR h (idsL caps ++ idsL vs) [])) caps) with
  | none => rfl
  | some r =>
   obtain ⟨a, h1⟩ := r
   by_cases c1 : (reach fuelR h (idsL caps ++ idsL vs) []).length ≤ h1.length <;> by_cases c2 : closed h (reach fuelR h (idsL caps ++ idsL vs) []) (idsL caps ++ idsL vs) = true <;> simp [c1, c2]
 | sl id gen off len =>
  simp only [kCallV, mapA]
  cases place (reach fuelR h (idsL (A.sl id gen off len :: vs)) []) id <;> rfl
 | ptr id gen off =>
  simp only [kCallV, mapA]
  cases place (reach fuelR h (idsL (A.ptr id gen off :: vs)) []) id <;> rfl
 | mp id =>
  simp only [kCallV, mapA]
  cases place (reach fuelR h (idsL (A.mp id :: vs)) []) id <;> rfl
 | agg cs => simp only [kCallV, mapA, aCallee]
 | tup cs => simp only [kCallV, mapA, aCallee]
 | junk => simp only [kCallV, mapA, aCallee]
theorem kOp_callv {t : Nat} {args : List Operand} {tys : Array TypeId} : kOp E call thaw dst (.call ⟨.value (.tmp t), args.toArray, tys⟩) s h k = match box (s.getD t (.d .undef)) with
  | .no => none
  | .mk g => kvs s args fun vs => kCallV E call h g vs k := by
 unfold kOp kvs
 simp only [opds, aEvals, aEval, box]
 cases aEvals s args with
 | none => rfl
 | some vs => simp only [isCall, if_true]; exact kCallV_eq
theorem kCallV_fn {f : FuncId} {caps : List D} {vs : List A} : kCallV E call h (.d (.fn f caps)) vs k = match box (vs ++ caps.map .d) with | .no => none | .mk as' => kCall E call h f as' k := rfl
theorem kCallV_clo {f : FuncId} {caps vs : List A} : kCallV E call h (.clo f caps) vs k = kCallC E call h f caps vs k := rfl
theorem kCallC_nil {f : FuncId} {vs : List A} : kCallC E call h f [] vs k = kCall E call h f vs k := by
 unfold kCallC kCall
 simp only [idsL, List.nil_append, mapAs, List.append_nil]
 rfl
theorem reach_le {h : H} {ids : List Nat} {h1 : H} {ord : List Nat} : ∀ (ord : List Nat) (h h1 : H) (f : Nat → Option Nat), ord.length ≤ h1.length → (putBack f h ord h1).length = h.length + (h1.length - ord.length)
 | [], h, h1, f, _ => by simp [putBack]
 | i :: ord, h, [], f, hl => by simp at hl
 | i :: ord, h, o :: h1, f, hl => by
  simp only [putBack, reach_le (h := h) (ids := ids) (h1 := h1) (ord := ord) ord _ h1 f (by simpa using hl), List.length_set, List.length_cons]
  omega
def wrC (E : Env) (f : FuncId) (ord : List Nat) : List Nat := if (E.hint f).mode == 3 then [] else ord
def footC (E : Env) (f : FuncId) (h h' : H) (ord : List Nat) : Option (H × Foot) := if ((E.hint f).mode == 1 && h'.length - h.length == 0) = true then some (h, { ids := ord, ro := true }) else some (h', { ids := ord ++ List.range' h.length (h'.length - h.length), ro := false, wr := wrC E f ord ++ List.range' h.length (h'.length - h.length) })
theorem kOpD_call0 {f : FuncId} {args : List Operand} {tys : Array TypeId} {q : A → H → Foot → Option R} : kOpD E call thaw dst (.call ⟨.value (.func f), args.toArray, tys⟩) s h q = kvs s args fun vs => match box (reach fuelR h (idsL vs) []) with
  | .no => none
  | .mk ord => kCall E call h f vs fun a h' => if ((E.hint f).mode == 1 && h'.length - h.length == 0) = true then q a h { ids := ord, ro := true } else q a h' { ids := ord ++ List.range' h.length (h'.length - h.length), ro := false, wr := wrC E f ord ++ List.range' h.length (h'.length - h.length) } := by
 unfold kOpD kvs kCall
 simp only [opds, aEvals, aEval, box]
 cases aEvals s args with
 | none => rfl
 | some vs =>
  simp only [pureOp, shallow, Bool.false_eq_true, if_false, evOpF, idsL, idsA, List.nil_append, mapAs, mapA, evOp, evCallee, aCallee, asOper, List.append_nil, readOp]
  cases aCall call E.hint (pack h (reach fuelR h (idsL vs) [])) f (mapAs (place (reach fuelR h (idsL vs) [])) vs) with
  | none => rfl
  | some r =>
   obtain ⟨a, h1⟩ := r
   by_cases c1 : (reach fuelR h (idsL vs) []).length ≤ h1.length
   ·by_cases c2 : closed h (reach fuelR h (idsL vs) []) (idsL vs) = true
    ·have e := reach_le (h := h) (ids := idsL vs) (h1 := h1) (ord := []) (reach fuelR h (idsL vs) []) h h1 (back (reach fuelR h (idsL vs) []) h.length h1.length) c1
     have e2 : (putBack (back (reach fuelR h (idsL vs) []) h.length h1.length) h (reach fuelR h (idsL vs) []) h1).length - h.length = h1.length - (reach fuelR h (idsL vs) []).length := by omega
     simp only [c1, c2, and_self, if_true, e2]
     first | done | rfl | (by_cases c3 : ((E.hint f).mode == 1 && h1.length - (reach fuelR h (idsL vs) []).length == 0) = true <;> simp [c3])
    ·simp only [c2, and_false, if_false, Bool.false_eq_true]
   ·simp only [c1, false_and, if_false]
theorem kOpD_call {f : FuncId} {args : List Operand} {tys : Array TypeId} {q : A → H → Foot → Option R} : kOpD E call thaw dst (.call ⟨.value (.func f), args.toArray, tys⟩) s h q = kvs s args fun vs => match box (reach fuelR h (idsL vs) []) with
  | .no => none
  | .mk ord => kCall E call h f vs fun a h' => match box (footC E f h h' ord) with | .mk (some (h'', c)) => q a h'' c | _ => none := by
 rw [kOpD_call0]
 congr 1
 funext vs
 simp only [box]
 congr 1
 funext a h'
 unfold footC
 by_cases hc : ((E.hint f).mode == 1 && h'.length - h.length == 0) = true
 ·simp only [if_pos hc]
 ·simp only [if_neg hc]
theorem kOpD_callv0 {t : Nat} {args : List Operand} {tys : Array TypeId} {q : A → H → Foot → Option R} {f : FuncId} {caps : List D} (hg : Now (s.getD t (.d .undef) = .d (.fn f caps))) : kOpD E call thaw dst (.call ⟨.value (.tmp t), args.toArray, tys⟩) s h q = kvs s args fun vs => match box (reach fuelR h (idsL vs) []) with
  | .no => none
  | .mk ord => kCall E call h f (vs ++ caps.map .d) fun a h' => if ((E.hint f).mode == 1 && h'.length - h.length == 0) = true then q a h { ids := ord, ro := true } else q a h' { ids := ord ++ List.range' h.length (h'.length - h.length), ro := false, wr := wrC E f ord ++ List.range' h.length (h'.length - h.length) } := by
 have hg := hg.it
 unfold kOpD kvs kCall
 simp only [opds, aEvals, aEval, box, hg]
 cases aEvals s args with
 | none => rfl
 | some vs =>
  simp only [pureOp, shallow, Bool.false_eq_true, if_false, evOpF, idsL, idsA, List.nil_append, mapAs, mapA, evOp, evCallee, aCallee, asOper, List.append_nil, readOp, idsL_app, idsL_d, mapAs_app, mapAs_d]
  cases aCall call E.hint (pack h (reach fuelR h (idsL vs) [])) f (mapAs (place (reach fuelR h (idsL vs) [])) vs ++ caps.map .d) with
  | none => rfl
  | some r =>
   obtain ⟨a, h1⟩ := r
   by_cases c1 : (reach fuelR h (idsL vs) []).length ≤ h1.length
   ·by_cases c2 : closed h (reach fuelR h (idsL vs) []) (idsL vs) = true
    ·have e := reach_le (h := h) (ids := idsL vs) (h1 := h1) (ord := []) (reach fuelR h (idsL vs) []) h h1 (back (reach fuelR h (idsL vs) []) h.length h1.length) c1
     have e2 : (putBack (back (reach fuelR h (idsL vs) []) h.length h1.length) h (reach fuelR h (idsL vs) []) h1).length - h.length = h1.length - (reach fuelR h (idsL vs) []).length := by omega
     simp only [c1, c2, and_self, if_true, e2]
     first | done | rfl | (by_cases c3 : ((E.hint f).mode == 1 && h1.length - (reach fuelR h (idsL vs) []).length == 0) = true <;> simp [c3])
    ·simp only [c2, and_false, if_false, Bool.false_eq_true]
   ·simp only [c1, false_and, if_false]
def kOther (E : Env) (call : CallF) (thaw : List Nat) (dst : Option Tmp) (op : Op) (s : List A) (h : H) (q : A → H → Foot → Option R) : Option R := kOpD E call thaw dst op s h q
theorem kOpD_callv {t : Nat} {args : List Operand} {tys : Array TypeId} {q : A → H → Foot → Option R} : kOpD E call thaw dst (.call ⟨.value (.tmp t), args.toArray, tys⟩) s h q = match box (s.getD t (.d .undef)) with
  | .mk (.d (.fn f caps)) => kvs s args fun vs => match box (reach fuelR h (idsL vs) []) with
   | .no => none
   | .mk ord => match box (vs ++ caps.map .d) with | .no => none | .mk as' => kCall E call h f as' fun a h' => match box (footC E f h h' ord) with | .mk (some (h'', c)) => q a h'' c | _ => none
  | .mk (.clo f []) => kvs s args fun vs => match box (reach fuelR h (idsL vs) []) with
   | .no => none
   | .mk ord => kCall E call h f vs fun a h' => match box (footC E f h h' ord) with | .mk (some (h'', c)) => q a h'' c | _ => none
  | _ => kOther E call thaw dst (.call ⟨.value (.tmp t), args.toArray, tys⟩) s h q := by
 have key := fun (f : FuncId) (caps : List D) hg => kOpD_callv0 (E := E) (call := call) (thaw := thaw) (dst := dst) (s := s) (h := h) (t := t) (args := args) (tys := tys) (q := q) (f := f) (caps := caps) hg
 have k2 : ∀ f, s.getD t (.d .undef) = .clo f [] → kOpD E call thaw dst (.call ⟨.value (.tmp t), args.toArray, tys⟩) s h q = kOpD E call thaw dst (.call ⟨.value (.func f), args.toArray, tys⟩) s h q := by
  intro f hg
  unfold kOpD kvs
  simp only [opds, aEvals, aEval, hg]
  cases aEvals s args <;> rfl
 have fold : ∀ (f : FuncId) (h h' : H) (ord : List Nat) (a : A), (if ((E.hint f).mode == 1 && h'.length - h.length == 0) = true then q a h { ids := ord, ro := true } else q a h' { ids := ord ++ List.range' h.length (h'.length - h.length), ro := false, wr := wrC E f ord ++ List.range' h.length (h'.length - h.length) }) = match box (footC E f h h' ord) with | .mk (some (h'', c)) => q a h'' c | _ => none := by
  intro f h h' ord a
  unfold footC
  by_cases hc : ((E.hint f).mode == 1 && h'.length - h.length == 0) = true
  ·simp only [if_pos hc, box]
  ·simp only [if_neg hc, box]
 generalize hs : s.getD t (.d .undef) = a
 cases a with
 | d x =>
  cases x with
  | fn f caps =>
   rw [key f caps ⟨hs⟩]
   simp only [fold]
   rfl
  | _ => rfl
 | clo f caps =>
  cases caps with
  | nil => rw [k2 f hs]; exact kOpD_call
  | cons c caps => rfl
 | _ => rfl
theorem reach_none (n : Nat) (h : H) : reach n h [] [] = [] := by cases n <;> rfl
mutual
theorem mapA_none {f : Nat → Option Nat} : ∀ a : A, idsA a = [] → mapA f a = a
 | .d x, _ => by simp only [mapA]
 | .sl id gen off len, h => by simp [idsA] at h
 | .ptr id gen off, h => by simp [idsA] at h
 | .mp id, h => by simp [idsA] at h
 | .clo g caps, h => by simp only [idsA] at h; simp only [mapA]; rw [mapAs_none caps h]
 | .agg cs, h => by simp only [idsA] at h; simp only [mapA]; rw [mapAs_none cs h]
 | .tup cs, h => by simp only [idsA] at h; simp only [mapA]; rw [mapAs_none cs h]
 | .junk, _ => by simp only [mapA]
theorem mapAs_none {f : Nat → Option Nat} : ∀ as : List A, idsL as = [] → mapAs f as = as
 | [], _ => by simp only [mapAs]
 | a :: as, h => by
  simp only [idsL, List.append_eq_nil_iff] at h
  simp only [mapAs]
  rw [mapA_none a h.1, mapAs_none as h.2]
end
theorem still_ids {a : A} (h : still a = true) : idsA a = [] := by
 cases a with
 | d x => rfl
 | agg cs =>
  simp only [still] at h
  simp only [idsA]
  induction cs with
  | nil => rfl
  | cons c cs ih =>
   simp only [List.all_cons, Bool.and_eq_true] at h
   simp only [idsL, ih h.2, List.append_nil]
   cases c <;> first | rfl | simp [isD] at h
 | _ => simp [still] at h
theorem stills_ids : ∀ {as : List A}, as.all still = true → idsL as = []
 | [], _ => rfl
 | a :: as, h => by
  simp only [List.all_cons, Bool.and_eq_true] at h
  simp only [idsL, still_ids h.1, stills_ids h.2, List.append_nil]
theorem frzL_still {h : H} : ∀ {cs : List A}, cs.all isD = true → ∃ ds, frzL h cs = some (ds, h) ∧ ds.map .d = cs
 | [], _ => ⟨[], rfl, rfl⟩
 | c :: cs, hs => by
  simp only [List.all_cons, Bool.and_eq_true] at hs
  obtain ⟨ds, h1, h2⟩ := frzL_still (h := h) hs.2
  cases c with
  | d x =>
   refine ⟨x :: ds, ?_, by simp [h2]⟩
   unfold frzL at h1 ⊢
   simp only [listWith]
   have : frz deep h (.d x) = some (x, h) := rfl
   rw [this]
   simp only [h1]
  | _ => simp [isD] at hs
theorem frzAs_still {h : H} : ∀ {as : List A}, as.all still = true → frzAs h as = some (as, h)
 | [], _ => rfl
 | a :: as, hs => by
  simp only [List.all_cons, Bool.and_eq_true] at hs
  have ha : frzA h a = some (a, h) := by
   cases a with
   | d x => rfl
   | agg cs =>
    obtain ⟨ds, h1, h2⟩ := frzL_still (h := h) (cs := cs) (by simpa only [still] using hs.1)
    simp only [frzA, h1, h2]
   | _ => simp [still] at hs
  simp only [frzAs, ha, frzAs_still hs.2]
theorem plain_clean {r : A} (h : plainA r = true) : cleanA r = true ∧ mapA (fun k => back [] 0 0 k) r = r := by
 cases r with
 | d x => cases x <;> first | exact ⟨rfl, rfl⟩ | simp [plainA] at h
 | tup vs =>
  simp only [plainA] at h
  have key : cleanAs vs = true ∧ mapAs (fun k => back [] 0 0 k) vs = vs := by
   induction vs with
   | nil => exact ⟨rfl, by simp only [mapAs]⟩
   | cons v vs ih =>
    simp only [List.all_cons, Bool.and_eq_true] at h
    obtain ⟨i1, i2⟩ := ih h.2
    cases v with
    | d x => cases x <;> first | (exfalso; simp at h; done) | (refine ⟨by simp only [cleanAs, cleanA, cleanD, i1, Bool.and_self], by simp only [mapAs, mapA, i2]⟩)
    | _ => simp at h
  exact ⟨by simp only [cleanA]; exact key.1, by simp only [mapA, key.2]⟩
 | _ => simp [plainA] at h
theorem aCall_still {f : FuncId} {args : List A} {r : A} (hs : args.all still = true) (hc : call f args [] = some (r, [])) (hp : plainA r = true ∨ ((E.hint f).mode == 1 || (E.hint f).mode == 3) = false) : aCall call E.hint [] f args = some (r, []) := by
 unfold aCall
 split
 ·exact hc
 ·rename_i hm
  rw [frzAs_still hs]
  simp only [hc]
  rcases hp with hp | hp
  ·rw [hp]; rfl
  ·rw [hm] at hp; cases hp
 ·rename_i hm
  rw [frzAs_still hs]
  simp only [hc]
  rcases hp with hp | hp
  ·obtain ⟨h1, h2⟩ := plain_clean hp
   rw [h1]
   simp only [List.all_nil, Bool.and_self, if_true, List.length_nil, List.map_nil, List.append_nil]
   exact congrArg (fun x => some (x, ([] : H))) h2
  ·rw [hm] at hp; cases hp
 ·rw [frzAs_still hs]
  simp only [hc]
theorem kCall_still {f : FuncId} {args : List A} {r : A} (hs : args.all still = true) (hc : call f args [] = some (r, [])) (hr : idsA r = []) (hp : plainA r = true ∨ ((E.hint f).mode == 1 || (E.hint f).mode == 3) = false) : kCall E call h f args k = k r h := by
 unfold kCall
 rw [stills_ids hs, reach_none, mapAs_none _ (stills_ids hs)]
 have : pack h [] = [] := rfl
 rw [this, aCall_still hs hc hp]
 simp only [List.length_nil, Nat.le_refl, true_and, closed, List.all_nil, Bool.and_self, if_true, mapA_none r hr, putBack, List.map_nil, List.append_nil]
def kLent (call : CallF) (f : FuncId) (args : List A) (k : A → Option R) : Option R :=
 match call f args [] with
 | some (r, []) => if plainA r = true then k r else none
 | _ => none
theorem kLent_ev {f : FuncId} {args : List A} {r : A} {k : A → Option R} (hc : call f args [] = some (r, [])) (hp : plainA r = true) : kLent call f args k = k r := by
 unfold kLent
 rw [hc]
 simp only [hp, if_true]
theorem plain_ids {r : A} (h : plainA r = true) : idsA r = [] := by
 cases r with
 | d x => rfl
 | tup vs =>
  simp only [plainA] at h
  simp only [idsA]
  induction vs with
  | nil => rfl
  | cons v vs ih =>
   simp only [List.all_cons, Bool.and_eq_true] at h
   simp only [idsL, ih h.2, List.append_nil]
   cases v with
   | d x => rfl
   | _ => simp at h
 | _ => simp [plainA] at h
theorem back_same (ord : List Nat) (n : Nat) : back ord n ord.length = fun k => ord[k]? := by
 funext k
 unfold back
 split
 ·rfl
 ·rename_i h
  rw [List.getElem?_eq_none (by omega)]
theorem putBack_pack {h : H} {ord ids : List Nat} (hc : closed h ord ids = true) (hn : ord.Nodup) (hl : ∀ i ∈ ord, i < h.length) : putBack (fun (k : Nat) => ord[k]?) h ord (pack h ord) = h := by
 apply List.ext_getElem?
 intro id
 rw [putBack_get _ ord h _ id hn hl (by simp [pack])]
 cases hp : place ord id with
 | none =>
  simp only []
  split
  ·rfl
  ·rename_i hge
   rw [List.getElem?_eq_none (by simp [pack]), List.getElem?_eq_none (by omega)]
   rfl
 | some k =>
  simp only []
  have hm := place_mem hp
  obtain ⟨o, ho⟩ : ∃ o, h[id]? = some o := ⟨h[id]'(hl id hm), List.getElem?_eq_getElem _⟩
  rw [pack_at (place_some hp) ho, ho, Option.map_some, mapO_back hc hm ho]
theorem kCall_lent0 {f : FuncId} {args : List A} (hm : (E.hint f).mode = 1) : kCall E call h f args k = match box (reach fuelR h (idsL args) []) with
  | .no => none
  | .mk ord => match box (frzAs (pack h ord) (mapAs (place ord) args)) with
   | .mk (some (fs, _)) => if closed h ord (idsL args) = true then kLent call f fs fun r => k r h else none
   | _ => none := by
 unfold kCall aCall
 rw [hm]
 simp only [box]
 cases hf : frzAs (pack h (reach fuelR h (idsL args) [])) (mapAs (place (reach fuelR h (idsL args) [])) args) with
 | none => rfl
 | some r =>
  obtain ⟨fs, h1⟩ := r
  simp only [kLent]
  cases hc : call f fs [] with
  | none => simp
  | some r =>
   obtain ⟨a, h2⟩ := r
   cases h2 with
   | cons o h2 => simp
   | nil =>
    simp only []
    by_cases hp : plainA a = true
    ·simp only [hp, if_true]
     have hlen : (pack h (reach fuelR h (idsL args) [])).length = (reach fuelR h (idsL args) []).length := by simp [pack]
     simp only [hlen, Nat.le_refl, true_and]
     by_cases hcl : closed h (reach fuelR h (idsL args) []) (idsL args) = true
     ·simp only [hcl, if_true, back_same, mapA_none a (plain_ids hp)]
      rw [putBack_pack hcl (reach_nodup fuelR h (idsL args) [] (by simp)) (reach_lt fuelR h (idsL args) [] (by simp))]
     ·simp only [hcl, Bool.false_eq_true, if_false]
    ·simp only [hp, Bool.false_eq_true, if_false]
     simp
def lentA (h : H) (args : List A) : Option (List A) := match box (reach fuelR h (idsL args) []) with
 | .no => none
 | .mk ord => match box (frzAs (pack h ord) (mapAs (place ord) args)) with
  | .mk (some (fs, _)) => if closed h ord (idsL args) = true then some fs else none
  | _ => none
theorem kCall_lent {f : FuncId} {args : List A} (hm : (E.hint f).mode = 1) : kCall E call h f args k = match box (lentA h args) with
  | .mk (some fs) => kLent call f fs fun r => k r h
  | _ => none := by
 rw [kCall_lent0 hm]
 unfold lentA
 simp only [box]
 cases frzAs (pack h (reach fuelR h (idsL args) [])) (mapAs (place (reach fuelR h (idsL args) [])) args) with
 | none => rfl
 | some r =>
  obtain ⟨fs, h1⟩ := r
  simp only []
  by_cases hc : closed h (reach fuelR h (idsL args) []) (idsL args) = true
  ·simp only [if_pos hc]
  ·simp only [if_neg hc]
theorem trim_eq {nf : Nat} {h : H} {ord : List Nat} {s : List A} : trim nf h ord s = match box (pack h ord) with
  | .mk p => (calmAs nf p (mapAs (place ord) s), calmH nf p)
  | .no => ([], []) := rfl
theorem gc_eq {nf : Nat} {m : List Bool} {s : List A} {h : H} : gc nf m s h = match box (tidy m s) with
  | .mk s1 => match box (keepOrd nf h (idsL s1)) with
   | .mk ord => trim nf h ord s1
   | .no => ([], [])
  | .no => ([], []) := rfl
theorem kFin_eq {P : Program} {nf : Nat} {exp : Bool} {rs : List ResultVar} {e : Exit} {s : List A} {h : H} : kFin P nf exp rs e s h =
  if leavesBody e then (match aResults P s h rs with
   | some rs => match outAs nf exp h rs with
    | some (xs, h2) => match box (keepOrd nf h2 (idsL xs)) with
     | .mk ord => match box (trim nf h2 ord xs) with
      | .mk r => some (tupA r.1, r.2)
      | .no => none
     | .no => none
    | none => none
   | none => none) else none := rfl
theorem keepOrd_eq (nf : Nat) (h : H) (ids : List Nat) : keepOrd nf h ids = reach 1099511627776 h (boxIds (h.take nf) ++ ids) (List.range nf) := rfl
theorem rng0 : List.range 0 = [] := rfl
theorem rng1 : List.range 1 = [0] := rfl
theorem rng2 : List.range 2 = [0, 1] := rfl
theorem rng3 : List.range 3 = [0, 1, 2] := rfl
theorem keepOrd_zero (h : H) (ids : List Nat) : keepOrd 0 h ids = reach 1099511627776 h ids [] := by
 unfold keepOrd
 simp only [List.take_zero, boxIds, List.nil_append, List.range_zero]
 rfl
theorem reach_nil (n : Nat) (h : H) (acc : List Nat) : reach n h [] acc = acc := by cases n <;> rfl
theorem reach_cons (n : Nat) (h : H) (i : Nat) (todo acc : List Nat) : reach (n + 1) h (i :: todo) acc = if acc.contains i = true then reach n h todo acc
  else match h.getD i .void with
   | .box cs => reach n h (todo ++ idsL cs) (acc ++ [i])
   | .vec cs _ _ => reach n h (todo ++ idsL cs) (acc ++ [i])
   | .void => reach n h todo acc
   | _ => reach n h todo (acc ++ [i]) := by
 simp only [reach, List.getD_eq_getElem?_getD]
 split
 ·rfl
 ·cases h[i]? with
  | none => rfl
  | some o => cases o <;> rfl
theorem ite_some {α : Type} {c : Prop} [Decidable c] {a : α} (hc : c) : (if c then some a else none) = some a := if_pos hc
def iAnd (k : IntKind) (a b : Int) : Int := k.wrap (BitVec.ofInt k.bits a &&& BitVec.ofInt k.bits b).toNat
def iOr (k : IntKind) (a b : Int) : Int := k.wrap (BitVec.ofInt k.bits a ||| BitVec.ofInt k.bits b).toNat
def iXor (k : IntKind) (a b : Int) : Int := k.wrap (BitVec.ofInt k.bits a ^^^ BitVec.ofInt k.bits b).toNat
def iAndNot (k : IntKind) (a b : Int) : Int := k.wrap (BitVec.ofInt k.bits a &&& ~~~BitVec.ofInt k.bits b).toNat
section
variable {t : TypeId} {K : IntKind} {a b : Int}
theorem evBin_add : evBin E .add t h (.d (.int K a)) (.d (.int K b)) = some (.d (.int K (K.wrap (a + b))), h) := by simp [evBin, aBin]; rfl
theorem evBin_sub : evBin E .sub t h (.d (.int K a)) (.d (.int K b)) = some (.d (.int K (K.wrap (a - b))), h) := by simp [evBin, aBin]; rfl
theorem evBin_mul : evBin E .mul t h (.d (.int K a)) (.d (.int K b)) = some (.d (.int K (K.wrap (a * b))), h) := by simp [evBin, aBin]; rfl
theorem evBin_and : evBin E .and t h (.d (.int K a)) (.d (.int K b)) = some (.d (.int K (iAnd K a b)), h) := by simp [evBin, aBin]; rfl
theorem evBin_or : evBin E .or t h (.d (.int K a)) (.d (.int K b)) = some (.d (.int K (iOr K a b)), h) := by simp [evBin, aBin]; rfl
theorem evBin_xor : evBin E .xor t h (.d (.int K a)) (.d (.int K b)) = some (.d (.int K (iXor K a b)), h) := by simp [evBin, aBin]; rfl
theorem evBin_andNot : evBin E .andNot t h (.d (.int K a)) (.d (.int K b)) = some (.d (.int K (iAndNot K a b)), h) := by simp [evBin, aBin]; rfl
theorem evBin_lss : evBin E .lss t h (.d (.int K a)) (.d (.int K b)) = some (.d (.bool (decide (a < b))), h) := by simp [evBin, aBin]
theorem evBin_leq : evBin E .leq t h (.d (.int K a)) (.d (.int K b)) = some (.d (.bool (decide (a ≤ b))), h) := by simp [evBin, aBin]
theorem evBin_gtr : evBin E .gtr t h (.d (.int K a)) (.d (.int K b)) = some (.d (.bool (decide (b < a))), h) := by simp [evBin, aBin]
theorem evBin_geq : evBin E .geq t h (.d (.int K a)) (.d (.int K b)) = some (.d (.bool (decide (b ≤ a))), h) := by simp [evBin, aBin]
theorem evBin_eql : evBin E .eql t h (.d (.int K a)) (.d (.int K b)) = some (.d (.bool (decide (a = b))), h) := by simp [evBin, aBin]; rfl
theorem evBin_neq : evBin E .neq t h (.d (.int K a)) (.d (.int K b)) = some (.d (.bool (!decide (a = b))), h) := by simp [evBin, aBin]; rfl
theorem evBin_quo (hb : b ≠ 0) : evBin E .quo t h (.d (.int K a)) (.d (.int K b)) = some (.d (.int K (K.wrap (a.tdiv b))), h) := by simp [evBin, aBin, hb]
theorem evBin_rem (hb : b ≠ 0) : evBin E .rem t h (.d (.int K a)) (.d (.int K b)) = some (.d (.int K (a.tmod b)), h) := by simp [evBin, aBin, hb]
theorem evBin_shl {K2 : IntKind} (hb : 0 ≤ b) : evBin E .shl t h (.d (.int K a)) (.d (.int K2 b)) = some (.d (.int K (K.wrap (a * 2 ^ (min b.toNat K.bits)))), h) := by
 have : ¬ b < 0 := by omega
 simp [evBin, aBin, Op.shift, this]; rfl
theorem evBin_shr {K2 : IntKind} (hb : 0 ≤ b) : evBin E .shr t h (.d (.int K a)) (.d (.int K2 b)) = some (.d (.int K (a.fdiv (2 ^ (min b.toNat K.bits)))), h) := by
 have : ¬ b < 0 := by omega
 simp [evBin, aBin, Op.shift, this]; rfl
theorem aUn_not {b : Bool} : aUn .not (.d (.bool b)) = some (.d (.bool (!b))) := rfl
end
end
theorem WD : type_of% (And.intro @kCode_skip (And.intro @kCode_ops (And.intro @kCode_drawn (And.intro @kCode_seq (And.intro @kCode_cond (And.intro @kCode_block (And.intro @kCode_loop (And.intro @kCode_exit (And.intro @kCode_ret (And.intro @kOps_nil (And.intro @kOps_cons (And.intro @kOpsD_nil (And.intro @kOpsD_cons (And.intro @kGuard_none (And.intro @kGuard_some (And.intro @xp6 (And.intro @xpd (And.intro @xom (And.intro @xp7 (And.intro @xop (And.intro @xoo (And.intro @xol (And.intro @xp5 (And.intro @kvs_nil (And.intro @kvs_cons (And.intro @kOp_move (And.intro @kOp_assign_tmp (And.intro @kOp_assign_const (And.intro @kOp_assign_func (And.intro @kOp_bin (And.intro @kOp_un (And.intro @kOp_pick (And.intro @kOp_nilCheck (And.intro @kOp_conv (And.intro @kOp_load (And.intro @kOp_store (And.intro @kOp_alloc (And.intro @kOp_box (And.intro @kOp_build (And.intro @kOp_buildSlice (And.intro @kOp_makeFunc (And.intro @kOp_makeSlice (And.intro @kOp_slice00 (And.intro @kOp_slice10 (And.intro @kOp_slice01 (And.intro @kOp_slice11 (And.intro @kOp_fieldAddr (And.intro @kOp_field (And.intro @kOp_indexAddr (And.intro @kOp_index (And.intro @kOp_extract (And.intro @kOp_builtin (And.intro @kOp_callB (And.intro @kFin_eq (And.intro @kNext_normal (And.intro @kNext_exit (And.intro @kNext_ret (And.intro @kOp_makeMap (And.intro @kOp_lookup @kOp_mapUpdate))))))))))))))))))))))))))))))))))))))))))))))))))))))))))) :=
 And.intro @kCode_skip (And.intro @kCode_ops (And.intro @kCode_drawn (And.intro @kCode_seq (And.intro @kCode_cond (And.intro @kCode_block (And.intro @kCode_loop (And.intro @kCode_exit (And.intro @kCode_ret (And.intro @kOps_nil (And.intro @kOps_cons (And.intro @kOpsD_nil (And.intro @kOpsD_cons (And.intro @kGuard_none (And.intro @kGuard_some (And.intro @xp6 (And.intro @xpd (And.intro @xom (And.intro @xp7 (And.intro @xop (And.intro @xoo (And.intro @xol (And.intro @xp5 (And.intro @kvs_nil (And.intro @kvs_cons (And.intro @kOp_move (And.intro @kOp_assign_tmp (And.intro @kOp_assign_const (And.intro @kOp_assign_func (And.intro @kOp_bin (And.intro @kOp_un (And.intro @kOp_pick (And.intro @kOp_nilCheck (And.intro @kOp_conv (And.intro @kOp_load (And.intro @kOp_store (And.intro @kOp_alloc (And.intro @kOp_box (And.intro @kOp_build (And.intro @kOp_buildSlice (And.intro @kOp_makeFunc (And.intro @kOp_makeSlice (And.intro @kOp_slice00 (And.intro @kOp_slice10 (And.intro @kOp_slice01 (And.intro @kOp_slice11 (And.intro @kOp_fieldAddr (And.intro @kOp_field (And.intro @kOp_indexAddr (And.intro @kOp_index (And.intro @kOp_extract (And.intro @kOp_builtin (And.intro @kOp_callB (And.intro @kFin_eq (And.intro @kNext_normal (And.intro @kNext_exit (And.intro @kNext_ret (And.intro @kOp_makeMap (And.intro @kOp_lookup @kOp_mapUpdate))))))))))))))))))))))))))))))))))))))))))))))))))))))))))
theorem WDD : type_of% (And.intro @kOpD_load (And.intro @kOpD_store (And.intro @kOpD_assign (And.intro @kOpD_alloc (And.intro @kOpD_box (And.intro @kOpD_buildSlice (And.intro @kOpD_conv (And.intro @kOpD_makeSlice (And.intro @kOpD_slice (And.intro @kOpD_indexAddr (And.intro @kOpD_append (And.intro @kOpD_len (And.intro @kOpD_move (And.intro @kOpD_pick (And.intro @kOpD_nilCheck (And.intro @kOpD_bin (And.intro @kOpD_un (And.intro @kOpD_makeFunc (And.intro @kOpD_fieldAddr (And.intro @kOpD_field (And.intro @kOpD_index (And.intro @kOpD_extract (And.intro @kOpD_build (And.intro @kOpD_call (And.intro @kOp_callv (And.intro @kCallV_fn (And.intro @kCallV_clo (And.intro @kCallC_nil (And.intro @kOpD_lookup (And.intro @kOpD_makeMap @kOpD_mapUpdate)))))))))))))))))))))))))))))) := (And.intro @kOpD_load (And.intro @kOpD_store (And.intro @kOpD_assign (And.intro @kOpD_alloc (And.intro @kOpD_box (And.intro @kOpD_buildSlice (And.intro @kOpD_conv (And.intro @kOpD_makeSlice (And.intro @kOpD_slice (And.intro @kOpD_indexAddr (And.intro @kOpD_append (And.intro @kOpD_len (And.intro @kOpD_move (And.intro @kOpD_pick (And.intro @kOpD_nilCheck (And.intro @kOpD_bin (And.intro @kOpD_un (And.intro @kOpD_makeFunc (And.intro @kOpD_fieldAddr (And.intro @kOpD_field (And.intro @kOpD_index (And.intro @kOpD_extract (And.intro @kOpD_build (And.intro @kOpD_call (And.intro @kOp_callv (And.intro @kCallV_fn (And.intro @kCallV_clo (And.intro @kCallC_nil (And.intro @kOpD_lookup (And.intro @kOpD_makeMap @kOpD_mapUpdate))))))))))))))))))))))))))))))
theorem WK0 : type_of% (And.intro @box_eq (And.intro @aUn_not (And.intro @evBin_add (And.intro @evBin_sub (And.intro @evBin_mul (And.intro @evBin_and (And.intro @evBin_or (And.intro @evBin_xor (And.intro @evBin_andNot (And.intro @evBin_quo (And.intro @evBin_rem (And.intro @evBin_shl (And.intro @evBin_shr (And.intro @evBin_lss (And.intro @evBin_leq (And.intro @evBin_gtr (And.intro @evBin_geq (And.intro @evBin_eql (And.intro @evBin_neq (And.intro @ne_eq.{0} (And.intro @not_true_eq_false (And.intro @if_false.{0} (And.intro @if_true.{0} (And.intro @List.getD_nil.{0} (And.intro @List.getD_cons_zero.{0} (And.intro @List.getD_cons_succ.{0} (And.intro @List.set_cons_zero.{0} (And.intro @List.set_cons_succ.{0} (And.intro @gc_eq @trim_eq))))))))))))))))))))))))))))) := (And.intro @box_eq (And.intro @aUn_not (And.intro @evBin_add (And.intro @evBin_sub (And.intro @evBin_mul (And.intro @evBin_and (And.intro @evBin_or (And.intro @evBin_xor (And.intro @evBin_andNot (And.intro @evBin_quo (And.intro @evBin_rem (And.intro @evBin_shl (And.intro @evBin_shr (And.intro @evBin_lss (And.intro @evBin_leq (And.intro @evBin_gtr (And.intro @evBin_geq (And.intro @evBin_eql (And.intro @evBin_neq (And.intro @ne_eq.{0} (And.intro @not_true_eq_false (And.intro @if_false.{0} (And.intro @if_true.{0} (And.intro @List.getD_nil.{0} (And.intro @List.getD_cons_zero.{0} (And.intro @List.getD_cons_succ.{0} (And.intro @List.set_cons_zero.{0} (And.intro @List.set_cons_succ.{0} (And.intro @gc_eq @trim_eq)))))))))))))))))))))))))))))
theorem WK1 : type_of% (And.intro @Bool.not_true (And.intro @Bool.not_false (And.intro @Bool.true_eq_false (And.intro @Bool.false_eq_true (And.intro @decide_eq_true_eq (And.intro @decide_eq_false_iff_not (And.intro @Option.map_some.{0, 0} (And.intro @Option.bind_some.{0, 0} (And.intro @List.append_nil.{0} (And.intro @List.nil_append.{0} (And.intro @List.map_nil.{0, 0} (And.intro @decide_true (And.intro @decide_false (And.intro @Bool.not_eq_false' (And.intro @Bool.not_eq_true' (And.intro @ite_some (And.intro @Nat.mul_one (And.intro @Nat.one_mul (And.intro @Nat.zero_add (And.intro @Nat.add_zero (And.intro @List.getElem?_cons_zero.{0} (And.intro @List.getElem?_cons_succ.{0} (And.intro @List.length_cons.{0} (And.intro @List.length_nil.{0} (And.intro @List.drop_zero.{0} (And.intro @List.all_cons.{0} (And.intro @List.all_nil.{0} (And.intro @Bool.and_self (And.intro @Bool.and_true @Bool.true_and))))))))))))))))))))))))))))) := (And.intro @Bool.not_true (And.intro @Bool.not_false (And.intro @Bool.true_eq_false (And.intro @Bool.false_eq_true (And.intro @decide_eq_true_eq (And.intro @decide_eq_false_iff_not (And.intro @Option.map_some.{0, 0} (And.intro @Option.bind_some.{0, 0} (And.intro @List.append_nil.{0} (And.intro @List.nil_append.{0} (And.intro @List.map_nil.{0, 0} (And.intro @decide_true (And.intro @decide_false (And.intro @Bool.not_eq_false' (And.intro @Bool.not_eq_true' (And.intro @ite_some (And.intro @Nat.mul_one (And.intro @Nat.one_mul (And.intro @Nat.zero_add (And.intro @Nat.add_zero (And.intro @List.getElem?_cons_zero.{0} (And.intro @List.getElem?_cons_succ.{0} (And.intro @List.length_cons.{0} (And.intro @List.length_nil.{0} (And.intro @List.drop_zero.{0} (And.intro @List.all_cons.{0} (And.intro @List.all_nil.{0} (And.intro @Bool.and_self (And.intro @Bool.and_true @Bool.true_and)))))))))))))))))))))))))))))
theorem WK2 : type_of% (And.intro @Bool.false_and (And.intro @Bool.and_false (And.intro @List.map_cons.{0, 0} (And.intro @List.zip_cons_cons.{0, 0} (And.intro @List.zip_nil_left.{0, 0} (And.intro @List.flatten_cons.{0} (And.intro @List.flatten_nil.{0} (And.intro @List.take_zero.{0} (And.intro @List.take_nil.{0} (And.intro @List.drop_nil.{0} (And.intro @List.cons_append.{0} (And.intro @Bool.or_self (And.intro @Bool.or_false (And.intro @Bool.false_or (And.intro @Nat.not_lt_zero (And.intro @and_self (And.intro @and_true (And.intro @true_and (And.intro @Bool.or_true (And.intro @Bool.true_or (And.intro @Option.map_none.{0, 0} (And.intro @List.drop_succ_cons.{0} (And.intro @List.take_succ_cons.{0} (And.intro @Nat.lt_irrefl (And.intro @List.head?_cons.{0} (And.intro @Option.any_some.{0} (And.intro @List.contains_cons.{0} (And.intro @List.contains_nil.{0} (And.intro @keepOrd_zero @keepOrd_eq))))))))))))))))))))))))))))) := (And.intro @Bool.false_and (And.intro @Bool.and_false (And.intro @List.map_cons.{0, 0} (And.intro @List.zip_cons_cons.{0, 0} (And.intro @List.zip_nil_left.{0, 0} (And.intro @List.flatten_cons.{0} (And.intro @List.flatten_nil.{0} (And.intro @List.take_zero.{0} (And.intro @List.take_nil.{0} (And.intro @List.drop_nil.{0} (And.intro @List.cons_append.{0} (And.intro @Bool.or_self (And.intro @Bool.or_false (And.intro @Bool.false_or (And.intro @Nat.not_lt_zero (And.intro @and_self (And.intro @and_true (And.intro @true_and (And.intro @Bool.or_true (And.intro @Bool.true_or (And.intro @Option.map_none.{0, 0} (And.intro @List.drop_succ_cons.{0} (And.intro @List.take_succ_cons.{0} (And.intro @Nat.lt_irrefl (And.intro @List.head?_cons.{0} (And.intro @Option.any_some.{0} (And.intro @List.contains_cons.{0} (And.intro @List.contains_nil.{0} (And.intro @keepOrd_zero @keepOrd_eq)))))))))))))))))))))))))))))
theorem WK3 : type_of% (And.intro @rng0 (And.intro @rng1 (And.intro @rng2 (And.intro @rng3 (And.intro @Option.getD_none.{0} (And.intro @Option.isNone_none.{0} (And.intro @Option.isNone_some.{0} (And.intro @Option.isSome_none.{0} (And.intro @Option.isSome_some.{0} (And.intro @reach_nil (And.intro @reach_cons (And.intro @beq_self_eq_true.{0} (And.intro @Nat.succ_ne_self (And.intro @Nat.zero_ne_one (And.intro @Nat.one_ne_zero (And.intro @List.length_append.{0} (And.intro @false_or (And.intro @or_false (And.intro @or_true (And.intro @true_or (And.intro @List.take_length.{0} (And.intro @Option.toList_none.{0} @Option.toList_some.{0})))))))))))))))))))))) := (And.intro @rng0 (And.intro @rng1 (And.intro @rng2 (And.intro @rng3 (And.intro @Option.getD_none.{0} (And.intro @Option.isNone_none.{0} (And.intro @Option.isNone_some.{0} (And.intro @Option.isSome_none.{0} (And.intro @Option.isSome_some.{0} (And.intro @reach_nil (And.intro @reach_cons (And.intro @beq_self_eq_true.{0} (And.intro @Nat.succ_ne_self (And.intro @Nat.zero_ne_one (And.intro @Nat.one_ne_zero (And.intro @List.length_append.{0} (And.intro @false_or (And.intro @or_false (And.intro @or_true (And.intro @true_or (And.intro @List.take_length.{0} (And.intro @Option.toList_none.{0} @Option.toList_some.{0}))))))))))))))))))))))
theorem WK : type_of% (And.intro @WK0 (And.intro @WK1 (And.intro @WK2 @WK3))) := (And.intro @WK0 (And.intro @WK1 (And.intro @WK2 @WK3)))
section
variable {E : Env} {vs : List A} {t u : TypeId} {x y : Operand}
theorem readOp_load : readOp E (.load t x) vs = true := rfl
theorem readOp_slice {a b c : Option Operand} : readOp E (.slice t x a b c) vs = true := rfl
theorem readOp_ia : readOp E (.indexAddr t x y) vs = true := rfl
theorem readOp_conv : readOp E (.convert t u x) vs = (elemT E.P u).isNone := rfl
theorem readOp_append {a : Array Operand} {b : Array TypeId} : readOp E (.call ⟨.builtin .append, a, b⟩) vs = false := rfl
theorem readOp_len {a : Array Operand} {b : Array TypeId} : readOp E (.call ⟨.builtin .len, a, b⟩) vs = true := rfl
theorem readOp_clo {a : Array Operand} {b : Array TypeId} {f : FuncId} {c : List A} : readOp E (.call ⟨.value x, a, b⟩) (.clo f c :: vs) = ((E.hint f).mode == 1) := rfl
theorem readOp_fn {a : Array Operand} {b : Array TypeId} {f : FuncId} {c : List D} : readOp E (.call ⟨.value x, a, b⟩) (.d (.fn f c) :: vs) = ((E.hint f).mode == 1) := rfl
theorem readOp_box : readOp E (.box t x) vs = false := rfl
theorem readOp_alloc : readOp E (.alloc t) vs = false := rfl
theorem readOp_assign : readOp E (.assign x) vs = false := rfl
theorem readOp_store : readOp E (.store t x y) vs = false := rfl
theorem readOp_bs {n : Nat} {ps : Array (Nat × Operand)} : readOp E (.buildSlice t n ps) vs = false := rfl
theorem readOp_ms : readOp E (.makeSlice t x y) vs = false := rfl
theorem readOp_mm : readOp E (.makeMap t none) vs = false := rfl
theorem readOp_mu {z : Operand} : readOp E (.mapUpdate t x y z) vs = false := rfl
theorem pure_lu {b : Bool} : pureOp (.lookup t x y b) = false := rfl
theorem pure_mm : pureOp (.makeMap t none) = false := rfl
theorem pure_mu {z : Operand} : pureOp (.mapUpdate t x y z) = false := rfl
theorem opds_alloc : opds (.alloc t) = [] := rfl
theorem pure_load : pureOp (.load t x) = false := rfl
theorem pure_store : pureOp (.store t x y) = false := rfl
theorem pure_assign : pureOp (.assign x) = false := rfl
theorem pure_alloc : pureOp (.alloc t) = false := rfl
theorem pure_box : pureOp (.box t x) = false := rfl
theorem pure_bs {n : Nat} {ps : Array (Nat × Operand)} : pureOp (.buildSlice t n ps) = false := rfl
theorem pure_conv : pureOp (.convert t u x) = false := rfl
theorem pure_ms : pureOp (.makeSlice t x y) = false := rfl
theorem pure_slice {a b c : Option Operand} : pureOp (.slice t x a b c) = false := rfl
theorem pure_ia : pureOp (.indexAddr t x y) = false := rfl
theorem pure_call {c : Call} : pureOp (.call c) = false := rfl
end
theorem UNx1 : type_of% (fun v0 => @leavesBody.eq_3 (Go.Exit.exit v0) (by nofun) (by nofun)) := (fun v0 => @leavesBody.eq_3 (Go.Exit.exit v0) (by nofun) (by nofun))
theorem UNx2 : type_of% (fun v0 => @leavesBody.eq_3 (Go.Exit.goto v0) (by nofun) (by nofun)) := (fun v0 => @leavesBody.eq_3 (Go.Exit.goto v0) (by nofun) (by nofun))
theorem UNx3 : type_of% (fun v0 => @leavesBody.eq_3 (Go.Exit.panic v0) (by nofun) (by nofun)) := (fun v0 => @leavesBody.eq_3 (Go.Exit.panic v0) (by nofun) (by nofun))
theorem UNx4 : type_of% (@leavesBody.eq_3 Go.Exit.outgrown (by nofun) (by nofun)) := (@leavesBody.eq_3 Go.Exit.outgrown (by nofun) (by nofun))
theorem UNx5 : type_of% (fun v0 v1 v2 v3 => @outA.eq_2 v0 v1 v2 (A.d v3) (by nofun)) := (fun v0 v1 v2 v3 => @outA.eq_2 v0 v1 v2 (A.d v3) (by nofun))
theorem UNx6 : type_of% (fun v0 v1 v2 v3 v4 v5 v6 => @outA.eq_2 v0 v1 v2 (A.sl v3 v4 v5 v6) (by nofun)) := (fun v0 v1 v2 v3 v4 v5 v6 => @outA.eq_2 v0 v1 v2 (A.sl v3 v4 v5 v6) (by nofun))
theorem UNx7 : type_of% (fun v0 v1 v2 v3 v4 v5 => @outA.eq_2 v0 v1 v2 (A.ptr v3 v4 v5) (by nofun)) := (fun v0 v1 v2 v3 v4 v5 => @outA.eq_2 v0 v1 v2 (A.ptr v3 v4 v5) (by nofun))
theorem UNx8 : type_of% (fun v0 v1 v2 v3 => @outA.eq_2 v0 v1 v2 (A.mp v3) (by nofun)) := (fun v0 v1 v2 v3 => @outA.eq_2 v0 v1 v2 (A.mp v3) (by nofun))
theorem UNx9 : type_of% (fun v0 v1 v2 v3 v4 => @outA.eq_2 v0 v1 v2 (A.clo v3 v4) (by nofun)) := (fun v0 v1 v2 v3 v4 => @outA.eq_2 v0 v1 v2 (A.clo v3 v4) (by nofun))
theorem UNx10 : type_of% (fun v0 v1 v2 v3 => @outA.eq_2 v0 v1 v2 (A.tup v3) (by nofun)) := (fun v0 v1 v2 v3 => @outA.eq_2 v0 v1 v2 (A.tup v3) (by nofun))
theorem UNx11 : type_of% (fun v0 v1 v2 => @outA.eq_2 v0 v1 v2 A.junk (by nofun)) := (fun v0 v1 v2 => @outA.eq_2 v0 v1 v2 A.junk (by nofun))
theorem UNx12 : type_of% (fun v0 v1 v2 => @outS.eq_2 v0 v1 v2 D.undef (by nofun)) := (fun v0 v1 v2 => @outS.eq_2 v0 v1 v2 D.undef (by nofun))
theorem UNx13 : type_of% (fun v0 v1 v2 v3 v4 => @outS.eq_2 v0 v1 v2 (D.int v3 v4) (by nofun)) := (fun v0 v1 v2 v3 v4 => @outS.eq_2 v0 v1 v2 (D.int v3 v4) (by nofun))
theorem UNx14 : type_of% (fun v0 v1 v2 v3 => @outS.eq_2 v0 v1 v2 (D.bool v3) (by nofun)) := (fun v0 v1 v2 v3 => @outS.eq_2 v0 v1 v2 (D.bool v3) (by nofun))
theorem UNx15 : type_of% (fun v0 v1 v2 v3 => @outS.eq_2 v0 v1 v2 (D.str v3) (by nofun)) := (fun v0 v1 v2 v3 => @outS.eq_2 v0 v1 v2 (D.str v3) (by nofun))
theorem UNx16 : type_of% (fun v0 v1 v2 v3 v4 => @outS.eq_2 v0 v1 v2 (D.ivs v3 v4) (by nofun)) := (fun v0 v1 v2 v3 v4 => @outS.eq_2 v0 v1 v2 (D.ivs v3 v4) (by nofun))
theorem UNx17 : type_of% (fun v0 v1 v2 v3 => @outS.eq_2 v0 v1 v2 (D.iptr v3) (by nofun)) := (fun v0 v1 v2 v3 => @outS.eq_2 v0 v1 v2 (D.iptr v3) (by nofun))
theorem UNx18 : type_of% (fun v0 v1 v2 => @outS.eq_2 v0 v1 v2 D.nilp (by nofun)) := (fun v0 v1 v2 => @outS.eq_2 v0 v1 v2 D.nilp (by nofun))
theorem UNx19 : type_of% (fun v0 v1 v2 v3 v4 => @outS.eq_2 v0 v1 v2 (D.fn v3 v4) (by nofun)) := (fun v0 v1 v2 v3 v4 => @outS.eq_2 v0 v1 v2 (D.fn v3 v4) (by nofun))
theorem UNx20 : type_of% (fun v0 v1 v2 => @outS.eq_2 v0 v1 v2 D.nilfn (by nofun)) := (fun v0 v1 v2 => @outS.eq_2 v0 v1 v2 D.nilfn (by nofun))
theorem UNx21 : type_of% (fun v0 v1 v2 => @outS.eq_2 v0 v1 v2 D.nili (by nofun)) := (fun v0 v1 v2 => @outS.eq_2 v0 v1 v2 D.nili (by nofun))
theorem UNx22 : type_of% (fun v0 v1 v2 => @outS.eq_2 v0 v1 v2 D.nilm (by nofun)) := (fun v0 v1 v2 => @outS.eq_2 v0 v1 v2 D.nilm (by nofun))
theorem UNx23 : type_of% (fun v0 v1 v2 v3 v4 => @outS.eq_2 v0 v1 v2 (D.ifc v3 v4) (by nofun)) := (fun v0 v1 v2 v3 v4 => @outS.eq_2 v0 v1 v2 (D.ifc v3 v4) (by nofun))
theorem UNx24 : type_of% (fun v0 v1 v2 v3 v4 => @outS.eq_6 v0 v1 v2 (A.clo v3 v4) (by nofun) (by nofun) (by nofun) (by nofun) (by nofun)) := (fun v0 v1 v2 v3 v4 => @outS.eq_6 v0 v1 v2 (A.clo v3 v4) (by nofun) (by nofun) (by nofun) (by nofun) (by nofun))
theorem UNx25 : type_of% (fun v0 v1 v2 v3 => @outS.eq_6 v0 v1 v2 (A.agg v3) (by nofun) (by nofun) (by nofun) (by nofun) (by nofun)) := (fun v0 v1 v2 v3 => @outS.eq_6 v0 v1 v2 (A.agg v3) (by nofun) (by nofun) (by nofun) (by nofun) (by nofun))
theorem UNx26 : type_of% (fun v0 v1 v2 v3 => @outS.eq_6 v0 v1 v2 (A.tup v3) (by nofun) (by nofun) (by nofun) (by nofun) (by nofun)) := (fun v0 v1 v2 v3 => @outS.eq_6 v0 v1 v2 (A.tup v3) (by nofun) (by nofun) (by nofun) (by nofun) (by nofun))
theorem UNx27 : type_of% (fun v0 v1 v2 => @outS.eq_6 v0 v1 v2 A.junk (by nofun) (by nofun) (by nofun) (by nofun) (by nofun)) := (fun v0 v1 v2 => @outS.eq_6 v0 v1 v2 A.junk (by nofun) (by nofun) (by nofun) (by nofun) (by nofun))
theorem UNx28 : type_of% (fun v0 v1 => @maskB.eq_4 (List.cons v0 v1) (by nofun)) := (fun v0 v1 => @maskB.eq_4 (List.cons v0 v1) (by nofun))
theorem UNx29 : type_of% (fun v0 v1 => @isUndef.eq_3 (A.d (D.int v0 v1)) (by nofun) (by nofun)) := (fun v0 v1 => @isUndef.eq_3 (A.d (D.int v0 v1)) (by nofun) (by nofun))
theorem UNx30 : type_of% (fun v0 => @isUndef.eq_3 (A.d (D.bool v0)) (by nofun) (by nofun)) := (fun v0 => @isUndef.eq_3 (A.d (D.bool v0)) (by nofun) (by nofun))
theorem UNx31 : type_of% (fun v0 => @isUndef.eq_3 (A.d (D.str v0)) (by nofun) (by nofun)) := (fun v0 => @isUndef.eq_3 (A.d (D.str v0)) (by nofun) (by nofun))
theorem UNx32 : type_of% (fun v0 v1 => @isUndef.eq_3 (A.d (D.ivs v0 v1)) (by nofun) (by nofun)) := (fun v0 v1 => @isUndef.eq_3 (A.d (D.ivs v0 v1)) (by nofun) (by nofun))
theorem UNx33 : type_of% (@isUndef.eq_3 (A.d D.nils) (by nofun) (by nofun)) := (@isUndef.eq_3 (A.d D.nils) (by nofun) (by nofun))
theorem UNx34 : type_of% (fun v0 => @isUndef.eq_3 (A.d (D.iptr v0)) (by nofun) (by nofun)) := (fun v0 => @isUndef.eq_3 (A.d (D.iptr v0)) (by nofun) (by nofun))
theorem UNx35 : type_of% (@isUndef.eq_3 (A.d D.nilp) (by nofun) (by nofun)) := (@isUndef.eq_3 (A.d D.nilp) (by nofun) (by nofun))
theorem UNx36 : type_of% (fun v0 v1 => @isUndef.eq_3 (A.d (D.fn v0 v1)) (by nofun) (by nofun)) := (fun v0 v1 => @isUndef.eq_3 (A.d (D.fn v0 v1)) (by nofun) (by nofun))
theorem UNx37 : type_of% (@isUndef.eq_3 (A.d D.nilfn) (by nofun) (by nofun)) := (@isUndef.eq_3 (A.d D.nilfn) (by nofun) (by nofun))
theorem UNx38 : type_of% (@isUndef.eq_3 (A.d D.nili) (by nofun) (by nofun)) := (@isUndef.eq_3 (A.d D.nili) (by nofun) (by nofun))
theorem UNx39 : type_of% (@isUndef.eq_3 (A.d D.nilm) (by nofun) (by nofun)) := (@isUndef.eq_3 (A.d D.nilm) (by nofun) (by nofun))
theorem UNx40 : type_of% (fun v0 v1 => @isUndef.eq_3 (A.d (D.ifc v0 v1)) (by nofun) (by nofun)) := (fun v0 v1 => @isUndef.eq_3 (A.d (D.ifc v0 v1)) (by nofun) (by nofun))
theorem UNx41 : type_of% (fun v0 v1 v2 v3 => @isUndef.eq_3 (A.sl v0 v1 v2 v3) (by nofun) (by nofun)) := (fun v0 v1 v2 v3 => @isUndef.eq_3 (A.sl v0 v1 v2 v3) (by nofun) (by nofun))
theorem UNx42 : type_of% (fun v0 v1 v2 => @isUndef.eq_3 (A.ptr v0 v1 v2) (by nofun) (by nofun)) := (fun v0 v1 v2 => @isUndef.eq_3 (A.ptr v0 v1 v2) (by nofun) (by nofun))
theorem UNx43 : type_of% (fun v0 => @isUndef.eq_3 (A.mp v0) (by nofun) (by nofun)) := (fun v0 => @isUndef.eq_3 (A.mp v0) (by nofun) (by nofun))
theorem UNx44 : type_of% (fun v0 v1 => @isUndef.eq_3 (A.clo v0 v1) (by nofun) (by nofun)) := (fun v0 v1 => @isUndef.eq_3 (A.clo v0 v1) (by nofun) (by nofun))
theorem UNx45 : type_of% (fun v0 => @isUndef.eq_3 (A.agg v0) (by nofun) (by nofun)) := (fun v0 => @isUndef.eq_3 (A.agg v0) (by nofun) (by nofun))
theorem UNx46 : type_of% (fun v0 => @isUndef.eq_3 (A.tup v0) (by nofun) (by nofun)) := (fun v0 => @isUndef.eq_3 (A.tup v0) (by nofun) (by nofun))
theorem UNx47 : type_of% (fun v0 => @tidy.eq_3 List.nil v0 (by nofun) (by nofun)) := (fun v0 => @tidy.eq_3 List.nil v0 (by nofun) (by nofun))
theorem UNx48 : type_of% (fun v0 => @tidy.eq_3 (List.cons Bool.false v0) List.nil (by nofun) (by nofun)) := (fun v0 => @tidy.eq_3 (List.cons Bool.false v0) List.nil (by nofun) (by nofun))
theorem UNx49 : type_of% (fun v0 => @tidy.eq_3 (List.cons Bool.true v0) List.nil (by nofun) (by nofun)) := (fun v0 => @tidy.eq_3 (List.cons Bool.true v0) List.nil (by nofun) (by nofun))
theorem UNx50 : type_of% (fun v0 v1 v2 v3 v4 => @aBuiltin.eq_2 v0 v1 v2 v3 (A.d v4) (by nofun)) := (fun v0 v1 v2 v3 v4 => @aBuiltin.eq_2 v0 v1 v2 v3 (A.d v4) (by nofun))
theorem UNx51 : type_of% (fun v0 v1 v2 v3 v4 v5 v6 v7 => @aBuiltin.eq_2 v0 v1 v2 v3 (A.sl v4 v5 v6 v7) (by nofun)) := (fun v0 v1 v2 v3 v4 v5 v6 v7 => @aBuiltin.eq_2 v0 v1 v2 v3 (A.sl v4 v5 v6 v7) (by nofun))
theorem UNx52 : type_of% (fun v0 v1 v2 v3 v4 v5 v6 => @aBuiltin.eq_2 v0 v1 v2 v3 (A.ptr v4 v5 v6) (by nofun)) := (fun v0 v1 v2 v3 v4 v5 v6 => @aBuiltin.eq_2 v0 v1 v2 v3 (A.ptr v4 v5 v6) (by nofun))
theorem UNx53 : type_of% (fun v0 v1 v2 v3 v4 v5 => @aBuiltin.eq_2 v0 v1 v2 v3 (A.clo v4 v5) (by nofun)) := (fun v0 v1 v2 v3 v4 v5 => @aBuiltin.eq_2 v0 v1 v2 v3 (A.clo v4 v5) (by nofun))
theorem UNx54 : type_of% (fun v0 v1 v2 v3 v4 => @aBuiltin.eq_2 v0 v1 v2 v3 (A.agg v4) (by nofun)) := (fun v0 v1 v2 v3 v4 => @aBuiltin.eq_2 v0 v1 v2 v3 (A.agg v4) (by nofun))
theorem UNx55 : type_of% (fun v0 v1 v2 v3 v4 => @aBuiltin.eq_2 v0 v1 v2 v3 (A.tup v4) (by nofun)) := (fun v0 v1 v2 v3 v4 => @aBuiltin.eq_2 v0 v1 v2 v3 (A.tup v4) (by nofun))
theorem UNx56 : type_of% (fun v0 v1 v2 v3 => @aBuiltin.eq_2 v0 v1 v2 v3 A.junk (by nofun)) := (fun v0 v1 v2 v3 => @aBuiltin.eq_2 v0 v1 v2 v3 A.junk (by nofun))
theorem UNx57 : type_of% (fun v0 v1 v2 v3 v4 => @aAppend.eq_2 v0 v1 v2 (A.d v4) v3 (by nofun)) := (fun v0 v1 v2 v3 v4 => @aAppend.eq_2 v0 v1 v2 (A.d v4) v3 (by nofun))
theorem UNx58 : type_of% (fun v0 v1 v2 v3 v4 v5 v6 => @aAppend.eq_2 v0 v1 v2 (A.ptr v4 v5 v6) v3 (by nofun)) := (fun v0 v1 v2 v3 v4 v5 v6 => @aAppend.eq_2 v0 v1 v2 (A.ptr v4 v5 v6) v3 (by nofun))
theorem UNx59 : type_of% (fun v0 v1 v2 v3 v4 => @aAppend.eq_2 v0 v1 v2 (A.mp v4) v3 (by nofun)) := (fun v0 v1 v2 v3 v4 => @aAppend.eq_2 v0 v1 v2 (A.mp v4) v3 (by nofun))
theorem UNx60 : type_of% (fun v0 v1 v2 v3 v4 v5 => @aAppend.eq_2 v0 v1 v2 (A.clo v4 v5) v3 (by nofun)) := (fun v0 v1 v2 v3 v4 v5 => @aAppend.eq_2 v0 v1 v2 (A.clo v4 v5) v3 (by nofun))
theorem UNx61 : type_of% (fun v0 v1 v2 v3 v4 => @aAppend.eq_2 v0 v1 v2 (A.agg v4) v3 (by nofun)) := (fun v0 v1 v2 v3 v4 => @aAppend.eq_2 v0 v1 v2 (A.agg v4) v3 (by nofun))
theorem UNx62 : type_of% (fun v0 v1 v2 v3 v4 => @aAppend.eq_2 v0 v1 v2 (A.tup v4) v3 (by nofun)) := (fun v0 v1 v2 v3 v4 => @aAppend.eq_2 v0 v1 v2 (A.tup v4) v3 (by nofun))
theorem UNx63 : type_of% (fun v0 v1 v2 v3 => @aAppend.eq_2 v0 v1 v2 A.junk v3 (by nofun)) := (fun v0 v1 v2 v3 => @aAppend.eq_2 v0 v1 v2 A.junk v3 (by nofun))
theorem UNx64 : type_of% (fun v0 v1 => @bears.eq_2 v0 (A.d v1) (by nofun)) := (fun v0 v1 => @bears.eq_2 v0 (A.d v1) (by nofun))
theorem UNx65 : type_of% (fun v0 v1 v2 v3 => @bears.eq_2 v0 (A.ptr v1 v2 v3) (by nofun)) := (fun v0 v1 v2 v3 => @bears.eq_2 v0 (A.ptr v1 v2 v3) (by nofun))
theorem UNx66 : type_of% (fun v0 v1 => @bears.eq_2 v0 (A.mp v1) (by nofun)) := (fun v0 v1 => @bears.eq_2 v0 (A.mp v1) (by nofun))
theorem UNx67 : type_of% (fun v0 v1 v2 => @bears.eq_2 v0 (A.clo v1 v2) (by nofun)) := (fun v0 v1 v2 => @bears.eq_2 v0 (A.clo v1 v2) (by nofun))
theorem UNx68 : type_of% (fun v0 v1 => @bears.eq_2 v0 (A.agg v1) (by nofun)) := (fun v0 v1 => @bears.eq_2 v0 (A.agg v1) (by nofun))
theorem UNx69 : type_of% (fun v0 v1 => @bears.eq_2 v0 (A.tup v1) (by nofun)) := (fun v0 v1 => @bears.eq_2 v0 (A.tup v1) (by nofun))
theorem UNx70 : type_of% (fun v0 => @bears.eq_2 v0 A.junk (by nofun)) := (fun v0 => @bears.eq_2 v0 A.junk (by nofun))
theorem UNx71 : type_of% (fun v0 v1 v2 => @sliceAs.eq_2 v0 v1 (A.d v2) (by nofun)) := (fun v0 v1 v2 => @sliceAs.eq_2 v0 v1 (A.d v2) (by nofun))
theorem UNx72 : type_of% (fun v0 v1 v2 v3 v4 => @sliceAs.eq_2 v0 v1 (A.ptr v2 v3 v4) (by nofun)) := (fun v0 v1 v2 v3 v4 => @sliceAs.eq_2 v0 v1 (A.ptr v2 v3 v4) (by nofun))
theorem UNx73 : type_of% (fun v0 v1 v2 => @sliceAs.eq_2 v0 v1 (A.mp v2) (by nofun)) := (fun v0 v1 v2 => @sliceAs.eq_2 v0 v1 (A.mp v2) (by nofun))
theorem UNx74 : type_of% (fun v0 v1 v2 v3 => @sliceAs.eq_2 v0 v1 (A.clo v2 v3) (by nofun)) := (fun v0 v1 v2 v3 => @sliceAs.eq_2 v0 v1 (A.clo v2 v3) (by nofun))
theorem UNx75 : type_of% (fun v0 v1 v2 => @sliceAs.eq_2 v0 v1 (A.agg v2) (by nofun)) := (fun v0 v1 v2 => @sliceAs.eq_2 v0 v1 (A.agg v2) (by nofun))
theorem UNx76 : type_of% (fun v0 v1 v2 => @sliceAs.eq_2 v0 v1 (A.tup v2) (by nofun)) := (fun v0 v1 v2 => @sliceAs.eq_2 v0 v1 (A.tup v2) (by nofun))
theorem UNx77 : type_of% (fun v0 v1 => @sliceAs.eq_2 v0 v1 A.junk (by nofun)) := (fun v0 v1 => @sliceAs.eq_2 v0 v1 A.junk (by nofun))
theorem UNx78 : type_of% (fun v0 v1 v2 => @frz.eq_5 v0 (A.d v2) v1 (by nofun) (by nofun) (by nofun)) := (fun v0 v1 v2 => @frz.eq_5 v0 (A.d v2) v1 (by nofun) (by nofun) (by nofun))
theorem UNx79 : type_of% (fun v0 v1 v2 => @frz.eq_5 v0 (A.mp v2) v1 (by nofun) (by nofun) (by nofun)) := (fun v0 v1 v2 => @frz.eq_5 v0 (A.mp v2) v1 (by nofun) (by nofun) (by nofun))
theorem UNx80 : type_of% (fun v0 v1 v2 => @frz.eq_5 v0 (A.agg v2) v1 (by nofun) (by nofun) (by nofun)) := (fun v0 v1 v2 => @frz.eq_5 v0 (A.agg v2) v1 (by nofun) (by nofun) (by nofun))
theorem UNx81 : type_of% (fun v0 v1 v2 => @frz.eq_5 v0 (A.tup v2) v1 (by nofun) (by nofun) (by nofun)) := (fun v0 v1 v2 => @frz.eq_5 v0 (A.tup v2) v1 (by nofun) (by nofun) (by nofun))
theorem UNx82 : type_of% (fun v0 v1 => @frz.eq_5 v0 A.junk v1 (by nofun) (by nofun) (by nofun)) := (fun v0 v1 => @frz.eq_5 v0 A.junk v1 (by nofun) (by nofun) (by nofun))
theorem UNx83 : type_of% (fun v0 v1 v2 v3 => @frz0.eq_3 v0 (A.ptr v1 v2 v3) (by nofun) (by nofun)) := (fun v0 v1 v2 v3 => @frz0.eq_3 v0 (A.ptr v1 v2 v3) (by nofun) (by nofun))
theorem UNx84 : type_of% (fun v0 v1 => @frz0.eq_3 v0 (A.mp v1) (by nofun) (by nofun)) := (fun v0 v1 => @frz0.eq_3 v0 (A.mp v1) (by nofun) (by nofun))
theorem UNx85 : type_of% (fun v0 v1 v2 => @frz0.eq_3 v0 (A.clo v1 v2) (by nofun) (by nofun)) := (fun v0 v1 v2 => @frz0.eq_3 v0 (A.clo v1 v2) (by nofun) (by nofun))
theorem UNx86 : type_of% (fun v0 v1 => @frz0.eq_3 v0 (A.agg v1) (by nofun) (by nofun)) := (fun v0 v1 => @frz0.eq_3 v0 (A.agg v1) (by nofun) (by nofun))
theorem UNx87 : type_of% (fun v0 v1 => @frz0.eq_3 v0 (A.tup v1) (by nofun) (by nofun)) := (fun v0 v1 => @frz0.eq_3 v0 (A.tup v1) (by nofun) (by nofun))
theorem UNx88 : type_of% (fun v0 => @frz0.eq_3 v0 A.junk (by nofun) (by nofun)) := (fun v0 => @frz0.eq_3 v0 A.junk (by nofun) (by nofun))
theorem UNx89 : type_of% (fun v0 => @cellsA.eq_2 (A.d v0) (by nofun)) := (fun v0 => @cellsA.eq_2 (A.d v0) (by nofun))
theorem UNx90 : type_of% (fun v0 v1 v2 v3 => @cellsA.eq_2 (A.sl v0 v1 v2 v3) (by nofun)) := (fun v0 v1 v2 v3 => @cellsA.eq_2 (A.sl v0 v1 v2 v3) (by nofun))
theorem UNx91 : type_of% (fun v0 v1 v2 => @cellsA.eq_2 (A.ptr v0 v1 v2) (by nofun)) := (fun v0 v1 v2 => @cellsA.eq_2 (A.ptr v0 v1 v2) (by nofun))
theorem UNx92 : type_of% (fun v0 => @cellsA.eq_2 (A.mp v0) (by nofun)) := (fun v0 => @cellsA.eq_2 (A.mp v0) (by nofun))
theorem UNx93 : type_of% (fun v0 v1 => @cellsA.eq_2 (A.clo v0 v1) (by nofun)) := (fun v0 v1 => @cellsA.eq_2 (A.clo v0 v1) (by nofun))
theorem UNx94 : type_of% (fun v0 => @cellsA.eq_2 (A.tup v0) (by nofun)) := (fun v0 => @cellsA.eq_2 (A.tup v0) (by nofun))
theorem UNx95 : type_of% (@cellsA.eq_2 A.junk (by nofun)) := (@cellsA.eq_2 A.junk (by nofun))
theorem UNx96 : type_of% (fun v0 v1 => @okCell.eq_5 (A.d (D.int v0 v1)) (by nofun) (by nofun) (by nofun) (by nofun)) := (fun v0 v1 => @okCell.eq_5 (A.d (D.int v0 v1)) (by nofun) (by nofun) (by nofun) (by nofun))
theorem UNx97 : type_of% (fun v0 => @okCell.eq_5 (A.d (D.bool v0)) (by nofun) (by nofun) (by nofun) (by nofun)) := (fun v0 => @okCell.eq_5 (A.d (D.bool v0)) (by nofun) (by nofun) (by nofun) (by nofun))
theorem UNx98 : type_of% (fun v0 => @okCell.eq_5 (A.d (D.str v0)) (by nofun) (by nofun) (by nofun) (by nofun)) := (fun v0 => @okCell.eq_5 (A.d (D.str v0)) (by nofun) (by nofun) (by nofun) (by nofun))
theorem UNx99 : type_of% (fun v0 v1 => @okCell.eq_5 (A.d (D.ivs v0 v1)) (by nofun) (by nofun) (by nofun) (by nofun)) := (fun v0 v1 => @okCell.eq_5 (A.d (D.ivs v0 v1)) (by nofun) (by nofun) (by nofun) (by nofun))
theorem UNx100 : type_of% (@okCell.eq_5 (A.d D.nils) (by nofun) (by nofun) (by nofun) (by nofun)) := (@okCell.eq_5 (A.d D.nils) (by nofun) (by nofun) (by nofun) (by nofun))
theorem UNx101 : type_of% (fun v0 => @okCell.eq_5 (A.d (D.iptr v0)) (by nofun) (by nofun) (by nofun) (by nofun)) := (fun v0 => @okCell.eq_5 (A.d (D.iptr v0)) (by nofun) (by nofun) (by nofun) (by nofun))
theorem UNx102 : type_of% (@okCell.eq_5 (A.d D.nilp) (by nofun) (by nofun) (by nofun) (by nofun)) := (@okCell.eq_5 (A.d D.nilp) (by nofun) (by nofun) (by nofun) (by nofun))
theorem UNx103 : type_of% (fun v0 v1 => @okCell.eq_5 (A.d (D.fn v0 v1)) (by nofun) (by nofun) (by nofun) (by nofun)) := (fun v0 v1 => @okCell.eq_5 (A.d (D.fn v0 v1)) (by nofun) (by nofun) (by nofun) (by nofun))
theorem UNx104 : type_of% (@okCell.eq_5 (A.d D.nilfn) (by nofun) (by nofun) (by nofun) (by nofun)) := (@okCell.eq_5 (A.d D.nilfn) (by nofun) (by nofun) (by nofun) (by nofun))
theorem UNx105 : type_of% (@okCell.eq_5 (A.d D.nili) (by nofun) (by nofun) (by nofun) (by nofun)) := (@okCell.eq_5 (A.d D.nili) (by nofun) (by nofun) (by nofun) (by nofun))
theorem UNx106 : type_of% (@okCell.eq_5 (A.d D.nilm) (by nofun) (by nofun) (by nofun) (by nofun)) := (@okCell.eq_5 (A.d D.nilm) (by nofun) (by nofun) (by nofun) (by nofun))
theorem UNx107 : type_of% (fun v0 v1 => @okCell.eq_5 (A.d (D.ifc v0 v1)) (by nofun) (by nofun) (by nofun) (by nofun)) := (fun v0 v1 => @okCell.eq_5 (A.d (D.ifc v0 v1)) (by nofun) (by nofun) (by nofun) (by nofun))
theorem UNx108 : type_of% (fun v0 v1 v2 v3 => @okCell.eq_5 (A.sl v0 v1 v2 v3) (by nofun) (by nofun) (by nofun) (by nofun)) := (fun v0 v1 v2 v3 => @okCell.eq_5 (A.sl v0 v1 v2 v3) (by nofun) (by nofun) (by nofun) (by nofun))
theorem UNx109 : type_of% (fun v0 v1 v2 => @okCell.eq_5 (A.ptr v0 v1 v2) (by nofun) (by nofun) (by nofun) (by nofun)) := (fun v0 v1 v2 => @okCell.eq_5 (A.ptr v0 v1 v2) (by nofun) (by nofun) (by nofun) (by nofun))
theorem UNx110 : type_of% (fun v0 => @okCell.eq_5 (A.mp v0) (by nofun) (by nofun) (by nofun) (by nofun)) := (fun v0 => @okCell.eq_5 (A.mp v0) (by nofun) (by nofun) (by nofun) (by nofun))
theorem UNx111 : type_of% (fun v0 v1 => @okCell.eq_5 (A.clo v0 v1) (by nofun) (by nofun) (by nofun) (by nofun)) := (fun v0 v1 => @okCell.eq_5 (A.clo v0 v1) (by nofun) (by nofun) (by nofun) (by nofun))
theorem UNx112 : type_of% (fun v0 => @notJunk.eq_2 (A.d v0) (by nofun)) := (fun v0 => @notJunk.eq_2 (A.d v0) (by nofun))
theorem UNx113 : type_of% (fun v0 v1 v2 v3 => @notJunk.eq_2 (A.sl v0 v1 v2 v3) (by nofun)) := (fun v0 v1 v2 v3 => @notJunk.eq_2 (A.sl v0 v1 v2 v3) (by nofun))
theorem UNx114 : type_of% (fun v0 v1 v2 => @notJunk.eq_2 (A.ptr v0 v1 v2) (by nofun)) := (fun v0 v1 v2 => @notJunk.eq_2 (A.ptr v0 v1 v2) (by nofun))
theorem UNx115 : type_of% (fun v0 => @notJunk.eq_2 (A.mp v0) (by nofun)) := (fun v0 => @notJunk.eq_2 (A.mp v0) (by nofun))
theorem UNx116 : type_of% (fun v0 v1 => @notJunk.eq_2 (A.clo v0 v1) (by nofun)) := (fun v0 v1 => @notJunk.eq_2 (A.clo v0 v1) (by nofun))
theorem UNx117 : type_of% (fun v0 => @notJunk.eq_2 (A.agg v0) (by nofun)) := (fun v0 => @notJunk.eq_2 (A.agg v0) (by nofun))
theorem UNx118 : type_of% (fun v0 => @notJunk.eq_2 (A.tup v0) (by nofun)) := (fun v0 => @notJunk.eq_2 (A.tup v0) (by nofun))
theorem UNx119 : type_of% (fun v0 v1 v2 v3 => @boxIds.eq_4 (O.arr v1 v2 v3) v0 (by nofun) (by nofun)) := (fun v0 v1 v2 v3 => @boxIds.eq_4 (O.arr v1 v2 v3) v0 (by nofun) (by nofun))
theorem UNx120 : type_of% (fun v0 v1 v2 v3 => @boxIds.eq_4 (O.ice v1 v2 v3) v0 (by nofun) (by nofun)) := (fun v0 v1 v2 v3 => @boxIds.eq_4 (O.ice v1 v2 v3) v0 (by nofun) (by nofun))
theorem UNx121 : type_of% (fun v0 v1 => @boxIds.eq_4 (O.mp v1) v0 (by nofun) (by nofun)) := (fun v0 v1 => @boxIds.eq_4 (O.mp v1) v0 (by nofun) (by nofun))
theorem UNx122 : type_of% (fun v0 => @boxIds.eq_4 O.void v0 (by nofun) (by nofun)) := (fun v0 => @boxIds.eq_4 O.void v0 (by nofun) (by nofun))
theorem UNx123 : type_of% (@tupA.eq_2 List.nil (by nofun)) := (@tupA.eq_2 List.nil (by nofun))
theorem UNx124 : type_of% (fun v0 v1 v2 => @tupA.eq_2 (List.cons v0 (List.cons v1 v2)) (by nofun)) := (fun v0 v1 v2 => @tupA.eq_2 (List.cons v0 (List.cons v1 v2)) (by nofun))
theorem UNx125 : type_of% (fun v0 => @three.eq_2 List.nil v0 (by nofun)) := (fun v0 => @three.eq_2 List.nil v0 (by nofun))
theorem UNx126 : type_of% (fun v0 v1 => @three.eq_2 (List.cons v1 List.nil) v0 (by nofun)) := (fun v0 v1 => @three.eq_2 (List.cons v1 List.nil) v0 (by nofun))
theorem UNx127 : type_of% (fun v0 v1 v2 => @three.eq_2 (List.cons v1 (List.cons v2 List.nil)) v0 (by nofun)) := (fun v0 v1 v2 => @three.eq_2 (List.cons v1 (List.cons v2 List.nil)) v0 (by nofun))
theorem UNx128 : type_of% (fun v0 v1 v2 v3 v4 v5 => @three.eq_2 (List.cons v1 (List.cons v2 (List.cons v3 (List.cons v4 v5)))) v0 (by nofun)) := (fun v0 v1 v2 v3 v4 v5 => @three.eq_2 (List.cons v1 (List.cons v2 (List.cons v3 (List.cons v4 v5)))) v0 (by nofun))
theorem UNx129 : type_of% (fun v0 v1 v2 v3 v4 => @evAssign.eq_2 v0 v1 (Go.Operand.tmp v4) v2 v3 (by nofun)) := (fun v0 v1 v2 v3 v4 => @evAssign.eq_2 v0 v1 (Go.Operand.tmp v4) v2 v3 (by nofun))
theorem UNx130 : type_of% (fun v0 v1 v2 v3 => @evAssign.eq_2 v0 v1 (Go.Operand.const v3) v2 (A.d D.undef) (by nofun)) := (fun v0 v1 v2 v3 => @evAssign.eq_2 v0 v1 (Go.Operand.const v3) v2 (A.d D.undef) (by nofun))
theorem UNx131 : type_of% (fun v0 v1 v2 v3 v4 v5 => @evAssign.eq_2 v0 v1 (Go.Operand.const v3) v2 (A.d (D.int v4 v5)) (by nofun)) := (fun v0 v1 v2 v3 v4 v5 => @evAssign.eq_2 v0 v1 (Go.Operand.const v3) v2 (A.d (D.int v4 v5)) (by nofun))
theorem UNx132 : type_of% (fun v0 v1 v2 v3 v4 => @evAssign.eq_2 v0 v1 (Go.Operand.const v3) v2 (A.d (D.bool v4)) (by nofun)) := (fun v0 v1 v2 v3 v4 => @evAssign.eq_2 v0 v1 (Go.Operand.const v3) v2 (A.d (D.bool v4)) (by nofun))
theorem UNx133 : type_of% (fun v0 v1 v2 v3 v4 => @evAssign.eq_2 v0 v1 (Go.Operand.const v3) v2 (A.d (D.str v4)) (by nofun)) := (fun v0 v1 v2 v3 v4 => @evAssign.eq_2 v0 v1 (Go.Operand.const v3) v2 (A.d (D.str v4)) (by nofun))
theorem UNx134 : type_of% (fun v0 v1 v2 v3 v4 v5 => @evAssign.eq_2 v0 v1 (Go.Operand.const v3) v2 (A.d (D.ivs v4 v5)) (by nofun)) := (fun v0 v1 v2 v3 v4 v5 => @evAssign.eq_2 v0 v1 (Go.Operand.const v3) v2 (A.d (D.ivs v4 v5)) (by nofun))
theorem UNx135 : type_of% (fun v0 v1 v2 v3 v4 => @evAssign.eq_2 v0 v1 (Go.Operand.const v3) v2 (A.d (D.iptr v4)) (by nofun)) := (fun v0 v1 v2 v3 v4 => @evAssign.eq_2 v0 v1 (Go.Operand.const v3) v2 (A.d (D.iptr v4)) (by nofun))
theorem UNx136 : type_of% (fun v0 v1 v2 v3 => @evAssign.eq_2 v0 v1 (Go.Operand.const v3) v2 (A.d D.nilp) (by nofun)) := (fun v0 v1 v2 v3 => @evAssign.eq_2 v0 v1 (Go.Operand.const v3) v2 (A.d D.nilp) (by nofun))
theorem UNx137 : type_of% (fun v0 v1 v2 v3 v4 v5 => @evAssign.eq_2 v0 v1 (Go.Operand.const v3) v2 (A.d (D.fn v4 v5)) (by nofun)) := (fun v0 v1 v2 v3 v4 v5 => @evAssign.eq_2 v0 v1 (Go.Operand.const v3) v2 (A.d (D.fn v4 v5)) (by nofun))
theorem UNx138 : type_of% (fun v0 v1 v2 v3 => @evAssign.eq_2 v0 v1 (Go.Operand.const v3) v2 (A.d D.nilfn) (by nofun)) := (fun v0 v1 v2 v3 => @evAssign.eq_2 v0 v1 (Go.Operand.const v3) v2 (A.d D.nilfn) (by nofun))
theorem UNx139 : type_of% (fun v0 v1 v2 v3 => @evAssign.eq_2 v0 v1 (Go.Operand.const v3) v2 (A.d D.nili) (by nofun)) := (fun v0 v1 v2 v3 => @evAssign.eq_2 v0 v1 (Go.Operand.const v3) v2 (A.d D.nili) (by nofun))
theorem UNx140 : type_of% (fun v0 v1 v2 v3 => @evAssign.eq_2 v0 v1 (Go.Operand.const v3) v2 (A.d D.nilm) (by nofun)) := (fun v0 v1 v2 v3 => @evAssign.eq_2 v0 v1 (Go.Operand.const v3) v2 (A.d D.nilm) (by nofun))
theorem UNx141 : type_of% (fun v0 v1 v2 v3 v4 v5 => @evAssign.eq_2 v0 v1 (Go.Operand.const v3) v2 (A.d (D.ifc v4 v5)) (by nofun)) := (fun v0 v1 v2 v3 v4 v5 => @evAssign.eq_2 v0 v1 (Go.Operand.const v3) v2 (A.d (D.ifc v4 v5)) (by nofun))
theorem UNx142 : type_of% (fun v0 v1 v2 v3 v4 v5 v6 v7 => @evAssign.eq_2 v0 v1 (Go.Operand.const v3) v2 (A.sl v4 v5 v6 v7) (by nofun)) := (fun v0 v1 v2 v3 v4 v5 v6 v7 => @evAssign.eq_2 v0 v1 (Go.Operand.const v3) v2 (A.sl v4 v5 v6 v7) (by nofun))
theorem UNx143 : type_of% (fun v0 v1 v2 v3 v4 v5 v6 => @evAssign.eq_2 v0 v1 (Go.Operand.const v3) v2 (A.ptr v4 v5 v6) (by nofun)) := (fun v0 v1 v2 v3 v4 v5 v6 => @evAssign.eq_2 v0 v1 (Go.Operand.const v3) v2 (A.ptr v4 v5 v6) (by nofun))
theorem UNx144 : type_of% (fun v0 v1 v2 v3 v4 => @evAssign.eq_2 v0 v1 (Go.Operand.const v3) v2 (A.mp v4) (by nofun)) := (fun v0 v1 v2 v3 v4 => @evAssign.eq_2 v0 v1 (Go.Operand.const v3) v2 (A.mp v4) (by nofun))
theorem UNx145 : type_of% (fun v0 v1 v2 v3 v4 v5 => @evAssign.eq_2 v0 v1 (Go.Operand.const v3) v2 (A.clo v4 v5) (by nofun)) := (fun v0 v1 v2 v3 v4 v5 => @evAssign.eq_2 v0 v1 (Go.Operand.const v3) v2 (A.clo v4 v5) (by nofun))
theorem UNx146 : type_of% (fun v0 v1 v2 v3 v4 => @evAssign.eq_2 v0 v1 (Go.Operand.const v3) v2 (A.agg v4) (by nofun)) := (fun v0 v1 v2 v3 v4 => @evAssign.eq_2 v0 v1 (Go.Operand.const v3) v2 (A.agg v4) (by nofun))
theorem UNx147 : type_of% (fun v0 v1 v2 v3 v4 => @evAssign.eq_2 v0 v1 (Go.Operand.const v3) v2 (A.tup v4) (by nofun)) := (fun v0 v1 v2 v3 v4 => @evAssign.eq_2 v0 v1 (Go.Operand.const v3) v2 (A.tup v4) (by nofun))
theorem UNx148 : type_of% (fun v0 v1 v2 v3 => @evAssign.eq_2 v0 v1 (Go.Operand.const v3) v2 A.junk (by nofun)) := (fun v0 v1 v2 v3 => @evAssign.eq_2 v0 v1 (Go.Operand.const v3) v2 A.junk (by nofun))
theorem UNx149 : type_of% (fun v0 v1 v2 v3 v4 => @evAssign.eq_2 v0 v1 (Go.Operand.global v4) v2 v3 (by nofun)) := (fun v0 v1 v2 v3 v4 => @evAssign.eq_2 v0 v1 (Go.Operand.global v4) v2 v3 (by nofun))
theorem UNx150 : type_of% (fun v0 v1 v2 v3 v4 => @evAssign.eq_2 v0 v1 (Go.Operand.func v4) v2 v3 (by nofun)) := (fun v0 v1 v2 v3 v4 => @evAssign.eq_2 v0 v1 (Go.Operand.func v4) v2 v3 (by nofun))
theorem UNx151 : type_of% (fun v0 => @isCall.eq_2 (Go.Op.move v0) (by nofun)) := (fun v0 => @isCall.eq_2 (Go.Op.move v0) (by nofun))
theorem UNx152 : type_of% (fun v0 => @isCall.eq_2 (Go.Op.assign v0) (by nofun)) := (fun v0 => @isCall.eq_2 (Go.Op.assign v0) (by nofun))
theorem UNx153 : type_of% (fun v0 v1 v2 => @isCall.eq_2 (Go.Op.pick v0 v1 v2) (by nofun)) := (fun v0 v1 v2 => @isCall.eq_2 (Go.Op.pick v0 v1 v2) (by nofun))
theorem UNx154 : type_of% (fun v0 => @isCall.eq_2 (Go.Op.alloc v0) (by nofun)) := (fun v0 => @isCall.eq_2 (Go.Op.alloc v0) (by nofun))
theorem UNx155 : type_of% (fun v0 v1 => @isCall.eq_2 (Go.Op.box v0 v1) (by nofun)) := (fun v0 v1 => @isCall.eq_2 (Go.Op.box v0 v1) (by nofun))
theorem UNx156 : type_of% (fun v0 v1 => @isCall.eq_2 (Go.Op.build v0 v1) (by nofun)) := (fun v0 v1 => @isCall.eq_2 (Go.Op.build v0 v1) (by nofun))
theorem UNx157 : type_of% (fun v0 v1 v2 => @isCall.eq_2 (Go.Op.buildSlice v0 v1 v2) (by nofun)) := (fun v0 v1 v2 => @isCall.eq_2 (Go.Op.buildSlice v0 v1 v2) (by nofun))
theorem UNx158 : type_of% (fun v0 v1 v2 v3 => @isCall.eq_2 (Go.Op.insert v0 v1 v2 v3) (by nofun)) := (fun v0 v1 v2 v3 => @isCall.eq_2 (Go.Op.insert v0 v1 v2 v3) (by nofun))
theorem UNx159 : type_of% (fun v0 v1 => @isCall.eq_2 (Go.Op.load v0 v1) (by nofun)) := (fun v0 v1 => @isCall.eq_2 (Go.Op.load v0 v1) (by nofun))
theorem UNx160 : type_of% (fun v0 v1 v2 => @isCall.eq_2 (Go.Op.store v0 v1 v2) (by nofun)) := (fun v0 v1 v2 => @isCall.eq_2 (Go.Op.store v0 v1 v2) (by nofun))
theorem UNx161 : type_of% (fun v0 => @isCall.eq_2 (Go.Op.ready v0) (by nofun)) := (fun v0 => @isCall.eq_2 (Go.Op.ready v0) (by nofun))
theorem UNx162 : type_of% (fun v0 => @isCall.eq_2 (Go.Op.waits v0) (by nofun)) := (fun v0 => @isCall.eq_2 (Go.Op.waits v0) (by nofun))
theorem UNx163 : type_of% (fun v0 => @isCall.eq_2 (Go.Op.nilCheck v0) (by nofun)) := (fun v0 => @isCall.eq_2 (Go.Op.nilCheck v0) (by nofun))
theorem UNx164 : type_of% (fun v0 v1 v2 v3 v4 => @isCall.eq_2 (Go.Op.binOp v0 v1 v2 v3 v4) (by nofun)) := (fun v0 v1 v2 v3 v4 => @isCall.eq_2 (Go.Op.binOp v0 v1 v2 v3 v4) (by nofun))
theorem UNx165 : type_of% (fun v0 v1 v2 => @isCall.eq_2 (Go.Op.unOp v0 v1 v2) (by nofun)) := (fun v0 v1 v2 => @isCall.eq_2 (Go.Op.unOp v0 v1 v2) (by nofun))
theorem UNx166 : type_of% (fun v0 v1 v2 => @isCall.eq_2 (Go.Op.convert v0 v1 v2) (by nofun)) := (fun v0 v1 v2 => @isCall.eq_2 (Go.Op.convert v0 v1 v2) (by nofun))
theorem UNx167 : type_of% (fun v0 v1 => @isCall.eq_2 (Go.Op.sliceToArrayPointer v0 v1) (by nofun)) := (fun v0 v1 => @isCall.eq_2 (Go.Op.sliceToArrayPointer v0 v1) (by nofun))
theorem UNx168 : type_of% (fun v0 v1 => @isCall.eq_2 (Go.Op.makeInterface v0 v1) (by nofun)) := (fun v0 v1 => @isCall.eq_2 (Go.Op.makeInterface v0 v1) (by nofun))
theorem UNx169 : type_of% (fun v0 v1 v2 => @isCall.eq_2 (Go.Op.makeFunc v0 v1 v2) (by nofun)) := (fun v0 v1 v2 => @isCall.eq_2 (Go.Op.makeFunc v0 v1 v2) (by nofun))
theorem UNx170 : type_of% (fun v0 v1 => @isCall.eq_2 (Go.Op.makeMap v0 v1) (by nofun)) := (fun v0 v1 => @isCall.eq_2 (Go.Op.makeMap v0 v1) (by nofun))
theorem UNx171 : type_of% (fun v0 v1 => @isCall.eq_2 (Go.Op.makeChan v0 v1) (by nofun)) := (fun v0 v1 => @isCall.eq_2 (Go.Op.makeChan v0 v1) (by nofun))
theorem UNx172 : type_of% (fun v0 v1 v2 => @isCall.eq_2 (Go.Op.makeSlice v0 v1 v2) (by nofun)) := (fun v0 v1 v2 => @isCall.eq_2 (Go.Op.makeSlice v0 v1 v2) (by nofun))
theorem UNx173 : type_of% (fun v0 v1 v2 v3 v4 => @isCall.eq_2 (Go.Op.slice v0 v1 v2 v3 v4) (by nofun)) := (fun v0 v1 v2 v3 v4 => @isCall.eq_2 (Go.Op.slice v0 v1 v2 v3 v4) (by nofun))
theorem UNx174 : type_of% (fun v0 v1 v2 => @isCall.eq_2 (Go.Op.fieldAddr v0 v1 v2) (by nofun)) := (fun v0 v1 v2 => @isCall.eq_2 (Go.Op.fieldAddr v0 v1 v2) (by nofun))
theorem UNx175 : type_of% (fun v0 v1 v2 => @isCall.eq_2 (Go.Op.field v0 v1 v2) (by nofun)) := (fun v0 v1 v2 => @isCall.eq_2 (Go.Op.field v0 v1 v2) (by nofun))
theorem UNx176 : type_of% (fun v0 v1 v2 => @isCall.eq_2 (Go.Op.indexAddr v0 v1 v2) (by nofun)) := (fun v0 v1 v2 => @isCall.eq_2 (Go.Op.indexAddr v0 v1 v2) (by nofun))
theorem UNx177 : type_of% (fun v0 v1 v2 => @isCall.eq_2 (Go.Op.index v0 v1 v2) (by nofun)) := (fun v0 v1 v2 => @isCall.eq_2 (Go.Op.index v0 v1 v2) (by nofun))
theorem UNx178 : type_of% (fun v0 v1 v2 v3 => @isCall.eq_2 (Go.Op.lookup v0 v1 v2 v3) (by nofun)) := (fun v0 v1 v2 v3 => @isCall.eq_2 (Go.Op.lookup v0 v1 v2 v3) (by nofun))
theorem UNx179 : type_of% (fun v0 v1 v2 v3 => @isCall.eq_2 (Go.Op.mapUpdate v0 v1 v2 v3) (by nofun)) := (fun v0 v1 v2 v3 => @isCall.eq_2 (Go.Op.mapUpdate v0 v1 v2 v3) (by nofun))
theorem UNx180 : type_of% (fun v0 v1 v2 => @isCall.eq_2 (Go.Op.mapEntry v0 v1 v2) (by nofun)) := (fun v0 v1 v2 => @isCall.eq_2 (Go.Op.mapEntry v0 v1 v2) (by nofun))
theorem UNx181 : type_of% (fun v0 v1 v2 v3 => @isCall.eq_2 (Go.Op.entryStore v0 v1 v2 v3) (by nofun)) := (fun v0 v1 v2 v3 => @isCall.eq_2 (Go.Op.entryStore v0 v1 v2 v3) (by nofun))
theorem UNx182 : type_of% (fun v0 v1 => @isCall.eq_2 (Go.Op.range v0 v1) (by nofun)) := (fun v0 v1 => @isCall.eq_2 (Go.Op.range v0 v1) (by nofun))
theorem UNx183 : type_of% (fun v0 v1 => @isCall.eq_2 (Go.Op.next v0 v1) (by nofun)) := (fun v0 v1 => @isCall.eq_2 (Go.Op.next v0 v1) (by nofun))
theorem UNx184 : type_of% (fun v0 => @isCall.eq_2 (Go.Op.entry v0) (by nofun)) := (fun v0 => @isCall.eq_2 (Go.Op.entry v0) (by nofun))
theorem UNx185 : type_of% (fun v0 v1 v2 v3 => @isCall.eq_2 (Go.Op.typeAssert v0 v1 v2 v3) (by nofun)) := (fun v0 v1 v2 v3 => @isCall.eq_2 (Go.Op.typeAssert v0 v1 v2 v3) (by nofun))
theorem UNx186 : type_of% (fun v0 v1 => @isCall.eq_2 (Go.Op.extract v0 v1) (by nofun)) := (fun v0 v1 => @isCall.eq_2 (Go.Op.extract v0 v1) (by nofun))
theorem UNx187 : type_of% (fun v0 => @isCall.eq_2 (Go.Op.go v0) (by nofun)) := (fun v0 => @isCall.eq_2 (Go.Op.go v0) (by nofun))
theorem UNx188 : type_of% (fun v0 => @isCall.eq_2 (Go.Op.defer v0) (by nofun)) := (fun v0 => @isCall.eq_2 (Go.Op.defer v0) (by nofun))
theorem UNx189 : type_of% (fun v0 => @isCall.eq_2 (Go.Op.panic v0) (by nofun)) := (fun v0 => @isCall.eq_2 (Go.Op.panic v0) (by nofun))
theorem UNx190 : type_of% (fun v0 v1 => @isCall.eq_2 (Go.Op.send v0 v1) (by nofun)) := (fun v0 v1 => @isCall.eq_2 (Go.Op.send v0 v1) (by nofun))
theorem UNx191 : type_of% (fun v0 v1 v2 => @isCall.eq_2 (Go.Op.recv v0 v1 v2) (by nofun)) := (fun v0 v1 v2 => @isCall.eq_2 (Go.Op.recv v0 v1 v2) (by nofun))
theorem UNx192 : type_of% (fun v0 v1 => @isCall.eq_2 (Go.Op.select v0 v1) (by nofun)) := (fun v0 v1 => @isCall.eq_2 (Go.Op.select v0 v1) (by nofun))
theorem UNx193 : type_of% (fun v0 v1 => @thawCells.eq_3 v0 (A.d D.undef) v1 (by nofun)) := (fun v0 v1 => @thawCells.eq_3 v0 (A.d D.undef) v1 (by nofun))
theorem UNx194 : type_of% (fun v0 v1 v2 v3 => @thawCells.eq_3 v0 (A.d (D.int v2 v3)) v1 (by nofun)) := (fun v0 v1 v2 v3 => @thawCells.eq_3 v0 (A.d (D.int v2 v3)) v1 (by nofun))
theorem UNx195 : type_of% (fun v0 v1 v2 => @thawCells.eq_3 v0 (A.d (D.bool v2)) v1 (by nofun)) := (fun v0 v1 v2 => @thawCells.eq_3 v0 (A.d (D.bool v2)) v1 (by nofun))
theorem UNx196 : type_of% (fun v0 v1 v2 => @thawCells.eq_3 v0 (A.d (D.str v2)) v1 (by nofun)) := (fun v0 v1 v2 => @thawCells.eq_3 v0 (A.d (D.str v2)) v1 (by nofun))
theorem UNx197 : type_of% (fun v0 v1 v2 v3 => @thawCells.eq_3 v0 (A.d (D.ivs v2 v3)) v1 (by nofun)) := (fun v0 v1 v2 v3 => @thawCells.eq_3 v0 (A.d (D.ivs v2 v3)) v1 (by nofun))
theorem UNx198 : type_of% (fun v0 v1 v2 => @thawCells.eq_3 v0 (A.d (D.iptr v2)) v1 (by nofun)) := (fun v0 v1 v2 => @thawCells.eq_3 v0 (A.d (D.iptr v2)) v1 (by nofun))
theorem UNx199 : type_of% (fun v0 v1 => @thawCells.eq_3 v0 (A.d D.nilp) v1 (by nofun)) := (fun v0 v1 => @thawCells.eq_3 v0 (A.d D.nilp) v1 (by nofun))
theorem UNx200 : type_of% (fun v0 v1 v2 v3 => @thawCells.eq_3 v0 (A.d (D.fn v2 v3)) v1 (by nofun)) := (fun v0 v1 v2 v3 => @thawCells.eq_3 v0 (A.d (D.fn v2 v3)) v1 (by nofun))
theorem UNx201 : type_of% (fun v0 v1 => @thawCells.eq_3 v0 (A.d D.nilfn) v1 (by nofun)) := (fun v0 v1 => @thawCells.eq_3 v0 (A.d D.nilfn) v1 (by nofun))
theorem UNx202 : type_of% (fun v0 v1 => @thawCells.eq_3 v0 (A.d D.nili) v1 (by nofun)) := (fun v0 v1 => @thawCells.eq_3 v0 (A.d D.nili) v1 (by nofun))
theorem UNx203 : type_of% (fun v0 v1 => @thawCells.eq_3 v0 (A.d D.nilm) v1 (by nofun)) := (fun v0 v1 => @thawCells.eq_3 v0 (A.d D.nilm) v1 (by nofun))
theorem UNx204 : type_of% (fun v0 v1 v2 v3 => @thawCells.eq_3 v0 (A.d (D.ifc v2 v3)) v1 (by nofun)) := (fun v0 v1 v2 v3 => @thawCells.eq_3 v0 (A.d (D.ifc v2 v3)) v1 (by nofun))
theorem UNx205 : type_of% (fun v0 v1 v2 v3 v4 v5 => @thawCells.eq_3 v0 (A.sl v2 v3 v4 v5) v1 (by nofun)) := (fun v0 v1 v2 v3 v4 v5 => @thawCells.eq_3 v0 (A.sl v2 v3 v4 v5) v1 (by nofun))
theorem UNx206 : type_of% (fun v0 v1 v2 v3 v4 => @thawCells.eq_3 v0 (A.ptr v2 v3 v4) v1 (by nofun)) := (fun v0 v1 v2 v3 v4 => @thawCells.eq_3 v0 (A.ptr v2 v3 v4) v1 (by nofun))
theorem UNx207 : type_of% (fun v0 v1 v2 => @thawCells.eq_3 v0 (A.mp v2) v1 (by nofun)) := (fun v0 v1 v2 => @thawCells.eq_3 v0 (A.mp v2) v1 (by nofun))
theorem UNx208 : type_of% (fun v0 v1 v2 v3 => @thawCells.eq_3 v0 (A.clo v2 v3) v1 (by nofun)) := (fun v0 v1 v2 v3 => @thawCells.eq_3 v0 (A.clo v2 v3) v1 (by nofun))
theorem UNx209 : type_of% (fun v0 v1 v2 => @thawCells.eq_3 v0 (A.agg v2) v1 (by nofun)) := (fun v0 v1 v2 => @thawCells.eq_3 v0 (A.agg v2) v1 (by nofun))
theorem UNx210 : type_of% (fun v0 v1 v2 => @thawCells.eq_3 v0 (A.tup v2) v1 (by nofun)) := (fun v0 v1 v2 => @thawCells.eq_3 v0 (A.tup v2) v1 (by nofun))
theorem UNx211 : type_of% (fun v0 v1 => @thawCells.eq_3 v0 A.junk v1 (by nofun)) := (fun v0 v1 => @thawCells.eq_3 v0 A.junk v1 (by nofun))
theorem UNx212 : type_of% (fun v0 v1 v2 v3 => @mapO.eq_3 v0 (O.arr v1 v2 v3) (by nofun) (by nofun)) := (fun v0 v1 v2 v3 => @mapO.eq_3 v0 (O.arr v1 v2 v3) (by nofun) (by nofun))
theorem UNx213 : type_of% (fun v0 v1 v2 v3 => @mapO.eq_3 v0 (O.ice v1 v2 v3) (by nofun) (by nofun)) := (fun v0 v1 v2 v3 => @mapO.eq_3 v0 (O.ice v1 v2 v3) (by nofun) (by nofun))
theorem UNx214 : type_of% (fun v0 v1 => @mapO.eq_3 v0 (O.mp v1) (by nofun) (by nofun)) := (fun v0 v1 => @mapO.eq_3 v0 (O.mp v1) (by nofun) (by nofun))
theorem UNx215 : type_of% (fun v0 => @mapO.eq_3 v0 O.void (by nofun) (by nofun)) := (fun v0 => @mapO.eq_3 v0 O.void (by nofun) (by nofun))
theorem UNx216 : type_of% (fun v0 v1 => @frzA.eq_2 v0 (A.d v1) (by nofun)) := (fun v0 v1 => @frzA.eq_2 v0 (A.d v1) (by nofun))
theorem UNx217 : type_of% (fun v0 v1 v2 v3 v4 => @frzA.eq_2 v0 (A.sl v1 v2 v3 v4) (by nofun)) := (fun v0 v1 v2 v3 v4 => @frzA.eq_2 v0 (A.sl v1 v2 v3 v4) (by nofun))
theorem UNx218 : type_of% (fun v0 v1 v2 v3 => @frzA.eq_2 v0 (A.ptr v1 v2 v3) (by nofun)) := (fun v0 v1 v2 v3 => @frzA.eq_2 v0 (A.ptr v1 v2 v3) (by nofun))
theorem UNx219 : type_of% (fun v0 v1 => @frzA.eq_2 v0 (A.mp v1) (by nofun)) := (fun v0 v1 => @frzA.eq_2 v0 (A.mp v1) (by nofun))
theorem UNx220 : type_of% (fun v0 v1 v2 => @frzA.eq_2 v0 (A.clo v1 v2) (by nofun)) := (fun v0 v1 v2 => @frzA.eq_2 v0 (A.clo v1 v2) (by nofun))
theorem UNx221 : type_of% (fun v0 v1 => @frzA.eq_2 v0 (A.tup v1) (by nofun)) := (fun v0 v1 => @frzA.eq_2 v0 (A.tup v1) (by nofun))
theorem UNx222 : type_of% (fun v0 => @frzA.eq_2 v0 A.junk (by nofun)) := (fun v0 => @frzA.eq_2 v0 A.junk (by nofun))
theorem UNx223 : type_of% (fun v0 v1 v2 v3 v4 v5 v6 => @evCallee.eq_4 v0 v1 v2 (Go.Callee.invoke v5 v6) v3 v4 (by nofun) (by nofun)) := (fun v0 v1 v2 v3 v4 v5 v6 => @evCallee.eq_4 v0 v1 v2 (Go.Callee.invoke v5 v6) v3 v4 (by nofun) (by nofun))
theorem UN0 : type_of% (And.intro @opds_alloc (And.intro @pure_load (And.intro @pure_store (And.intro @pure_assign (And.intro @pure_alloc (And.intro @pure_box (And.intro @pure_bs (And.intro @pure_conv (And.intro @pure_ms (And.intro @pure_slice (And.intro @pure_ia (And.intro @pure_call (And.intro @aLen.eq_def (And.intro @readOp_append (And.intro @readOp_len (And.intro @readOp_clo (And.intro @readOp_fn (And.intro @readOp_load (And.intro @readOp_slice (And.intro @readOp_ia (And.intro @readOp_conv (And.intro @readOp_box (And.intro @readOp_alloc (And.intro @readOp_assign (And.intro @readOp_store (And.intro @readOp_bs (And.intro @readOp_ms (And.intro @readOp_mm (And.intro @readOp_mu (And.intro @pure_lu (And.intro @pure_mm (And.intro @pure_mu (And.intro @List.replicate.eq_1.{0} (And.intro @List.replicate.eq_2.{0} (And.intro @List.range'.eq_1 (And.intro @List.range'.eq_2 (And.intro True.intro (And.intro @thawAt.eq_1 (And.intro @thawAt.eq_2 @evPick.eq_1))))))))))))))))))))))))))))))))))))))) := (And.intro @opds_alloc (And.intro @pure_load (And.intro @pure_store (And.intro @pure_assign (And.intro @pure_alloc (And.intro @pure_box (And.intro @pure_bs (And.intro @pure_conv (And.intro @pure_ms (And.intro @pure_slice (And.intro @pure_ia (And.intro @pure_call (And.intro @aLen.eq_def (And.intro @readOp_append (And.intro @readOp_len (And.intro @readOp_clo (And.intro @readOp_fn (And.intro @readOp_load (And.intro @readOp_slice (And.intro @readOp_ia (And.intro @readOp_conv (And.intro @readOp_box (And.intro @readOp_alloc (And.intro @readOp_assign (And.intro @readOp_store (And.intro @readOp_bs (And.intro @readOp_ms (And.intro @readOp_mm (And.intro @readOp_mu (And.intro @pure_lu (And.intro @pure_mm (And.intro @pure_mu (And.intro @List.replicate.eq_1.{0} (And.intro @List.replicate.eq_2.{0} (And.intro @List.range'.eq_1 (And.intro @List.range'.eq_2 (And.intro True.intro (And.intro @thawAt.eq_1 (And.intro @thawAt.eq_2 @evPick.eq_1)))))))))))))))))))))))))))))))))))))))
theorem UN1 : type_of% (And.intro @aPut.eq_1 (And.intro @aPut.eq_2 (And.intro @leavesBody.eq_1 (And.intro @leavesBody.eq_2 (And.intro @UNx1 (And.intro @UNx2 (And.intro @UNx3 (And.intro @UNx4 (And.intro @outA.eq_1 (And.intro @UNx5 (And.intro @UNx6 (And.intro @UNx7 (And.intro @UNx8 (And.intro @UNx9 (And.intro @UNx10 (And.intro @UNx11 (And.intro @outS.eq_1 (And.intro @UNx12 (And.intro @UNx13 (And.intro @UNx14 (And.intro @UNx15 (And.intro @UNx16 (And.intro @UNx17 (And.intro @UNx18 (And.intro @UNx19 (And.intro @UNx20 (And.intro @UNx21 (And.intro @UNx22 (And.intro @UNx23 (And.intro @outS.eq_3 (And.intro @outS.eq_4 (And.intro @outS.eq_5 (And.intro @UNx24 (And.intro @UNx25 (And.intro @UNx26 (And.intro @UNx27 (And.intro @outSs.eq_1 (And.intro @outSs.eq_2 (And.intro @idsA.eq_1 @idsA.eq_2))))))))))))))))))))))))))))))))))))))) := (And.intro @aPut.eq_1 (And.intro @aPut.eq_2 (And.intro @leavesBody.eq_1 (And.intro @leavesBody.eq_2 (And.intro @UNx1 (And.intro @UNx2 (And.intro @UNx3 (And.intro @UNx4 (And.intro @outA.eq_1 (And.intro @UNx5 (And.intro @UNx6 (And.intro @UNx7 (And.intro @UNx8 (And.intro @UNx9 (And.intro @UNx10 (And.intro @UNx11 (And.intro @outS.eq_1 (And.intro @UNx12 (And.intro @UNx13 (And.intro @UNx14 (And.intro @UNx15 (And.intro @UNx16 (And.intro @UNx17 (And.intro @UNx18 (And.intro @UNx19 (And.intro @UNx20 (And.intro @UNx21 (And.intro @UNx22 (And.intro @UNx23 (And.intro @outS.eq_3 (And.intro @outS.eq_4 (And.intro @outS.eq_5 (And.intro @UNx24 (And.intro @UNx25 (And.intro @UNx26 (And.intro @UNx27 (And.intro @outSs.eq_1 (And.intro @outSs.eq_2 (And.intro @idsA.eq_1 @idsA.eq_2)))))))))))))))))))))))))))))))))))))))
theorem UN2 : type_of% (And.intro @idsA.eq_3 (And.intro @idsA.eq_4 (And.intro @idsA.eq_5 (And.intro @idsA.eq_6 (And.intro @idsA.eq_7 (And.intro @idsA.eq_8 (And.intro @idsL.eq_1 (And.intro @idsL.eq_2 (And.intro @mapA.eq_1 (And.intro @mapA.eq_2 (And.intro @mapA.eq_3 (And.intro @mapA.eq_4 (And.intro @mapA.eq_5 (And.intro @mapA.eq_6 (And.intro @mapA.eq_7 (And.intro @mapA.eq_8 (And.intro @calmAs.eq_1 (And.intro @calmAs.eq_2 (And.intro @calmA.eq_1 (And.intro @calmA.eq_2 (And.intro @calmA.eq_3 (And.intro @calmA.eq_4 (And.intro @calmA.eq_5 (And.intro @calmA.eq_6 (And.intro @calmA.eq_7 (And.intro @calmA.eq_8 (And.intro @calmSl.eq_1 (And.intro @calmPt.eq_1 (And.intro @genOf.eq_1 (And.intro @calmH.eq_1 (And.intro @calmFrom.eq_1 (And.intro @calmFrom.eq_2 (And.intro @calmO.eq_1 (And.intro @calmO.eq_2 (And.intro @calmO.eq_3 (And.intro @calmO.eq_4 (And.intro @calmO.eq_5 (And.intro @calmO.eq_6 (And.intro @mapAs.eq_1 @mapAs.eq_2))))))))))))))))))))))))))))))))))))))) := (And.intro @idsA.eq_3 (And.intro @idsA.eq_4 (And.intro @idsA.eq_5 (And.intro @idsA.eq_6 (And.intro @idsA.eq_7 (And.intro @idsA.eq_8 (And.intro @idsL.eq_1 (And.intro @idsL.eq_2 (And.intro @mapA.eq_1 (And.intro @mapA.eq_2 (And.intro @mapA.eq_3 (And.intro @mapA.eq_4 (And.intro @mapA.eq_5 (And.intro @mapA.eq_6 (And.intro @mapA.eq_7 (And.intro @mapA.eq_8 (And.intro @calmAs.eq_1 (And.intro @calmAs.eq_2 (And.intro @calmA.eq_1 (And.intro @calmA.eq_2 (And.intro @calmA.eq_3 (And.intro @calmA.eq_4 (And.intro @calmA.eq_5 (And.intro @calmA.eq_6 (And.intro @calmA.eq_7 (And.intro @calmA.eq_8 (And.intro @calmSl.eq_1 (And.intro @calmPt.eq_1 (And.intro @genOf.eq_1 (And.intro @calmH.eq_1 (And.intro @calmFrom.eq_1 (And.intro @calmFrom.eq_2 (And.intro @calmO.eq_1 (And.intro @calmO.eq_2 (And.intro @calmO.eq_3 (And.intro @calmO.eq_4 (And.intro @calmO.eq_5 (And.intro @calmO.eq_6 (And.intro @mapAs.eq_1 @mapAs.eq_2)))))))))))))))))))))))))))))))))))))))
theorem UN3 : type_of% (And.intro @maskB.eq_1 (And.intro @maskB.eq_2 (And.intro @maskB.eq_3 (And.intro @UNx28 (And.intro @isUndef.eq_1 (And.intro @isUndef.eq_2 (And.intro @UNx29 (And.intro @UNx30 (And.intro @UNx31 (And.intro @UNx32 (And.intro @UNx33 (And.intro @UNx34 (And.intro @UNx35 (And.intro @UNx36 (And.intro @UNx37 (And.intro @UNx38 (And.intro @UNx39 (And.intro @UNx40 (And.intro @UNx41 (And.intro @UNx42 (And.intro @UNx43 (And.intro @UNx44 (And.intro @UNx45 (And.intro @UNx46 (And.intro @tidy.eq_1 (And.intro @tidy.eq_2 (And.intro @UNx47 (And.intro @UNx48 (And.intro @UNx49 (And.intro @aBuiltin.eq_1 (And.intro @UNx50 (And.intro @UNx51 (And.intro @UNx52 (And.intro @UNx53 (And.intro @UNx54 (And.intro @UNx55 (And.intro @UNx56 (And.intro @aBuiltin.eq_3 (And.intro @aAppend.eq_1 @UNx57))))))))))))))))))))))))))))))))))))))) := (And.intro @maskB.eq_1 (And.intro @maskB.eq_2 (And.intro @maskB.eq_3 (And.intro @UNx28 (And.intro @isUndef.eq_1 (And.intro @isUndef.eq_2 (And.intro @UNx29 (And.intro @UNx30 (And.intro @UNx31 (And.intro @UNx32 (And.intro @UNx33 (And.intro @UNx34 (And.intro @UNx35 (And.intro @UNx36 (And.intro @UNx37 (And.intro @UNx38 (And.intro @UNx39 (And.intro @UNx40 (And.intro @UNx41 (And.intro @UNx42 (And.intro @UNx43 (And.intro @UNx44 (And.intro @UNx45 (And.intro @UNx46 (And.intro @tidy.eq_1 (And.intro @tidy.eq_2 (And.intro @UNx47 (And.intro @UNx48 (And.intro @UNx49 (And.intro @aBuiltin.eq_1 (And.intro @UNx50 (And.intro @UNx51 (And.intro @UNx52 (And.intro @UNx53 (And.intro @UNx54 (And.intro @UNx55 (And.intro @UNx56 (And.intro @aBuiltin.eq_3 (And.intro @aAppend.eq_1 @UNx57)))))))))))))))))))))))))))))))))))))))
theorem UN4 : type_of% (And.intro @UNx58 (And.intro @UNx59 (And.intro @UNx60 (And.intro @UNx61 (And.intro @UNx62 (And.intro @UNx63 (And.intro @aAppend0.eq_1 (And.intro @aAppendV.eq_1 (And.intro @isVec.eq_1 (And.intro @bears.eq_1 (And.intro @UNx64 (And.intro @UNx65 (And.intro @UNx66 (And.intro @UNx67 (And.intro @UNx68 (And.intro @UNx69 (And.intro @UNx70 (And.intro @emptyArr.eq_1 (And.intro @sliceAs.eq_1 (And.intro @UNx71 (And.intro @UNx72 (And.intro @UNx73 (And.intro @UNx74 (And.intro @UNx75 (And.intro @UNx76 (And.intro @UNx77 (And.intro @keeps.eq_1 (And.intro @aBuildVec.eq_1 (And.intro @sliceCells.eq_1 (And.intro @sliceCells.eq_2 (And.intro @sliceCells.eq_3 (And.intro @sliceCells.eq_4 (And.intro @aBuildSlice.eq_1 (And.intro @aIndexAddr.eq_1 (And.intro @aLoad.eq_1 (And.intro @runOf.eq_1 (And.intro @runOf.eq_2 (And.intro @ofCells.eq_1 (And.intro @withInt.eq_1 @fillA.eq_1))))))))))))))))))))))))))))))))))))))) := (And.intro @UNx58 (And.intro @UNx59 (And.intro @UNx60 (And.intro @UNx61 (And.intro @UNx62 (And.intro @UNx63 (And.intro @aAppend0.eq_1 (And.intro @aAppendV.eq_1 (And.intro @isVec.eq_1 (And.intro @bears.eq_1 (And.intro @UNx64 (And.intro @UNx65 (And.intro @UNx66 (And.intro @UNx67 (And.intro @UNx68 (And.intro @UNx69 (And.intro @UNx70 (And.intro @emptyArr.eq_1 (And.intro @sliceAs.eq_1 (And.intro @UNx71 (And.intro @UNx72 (And.intro @UNx73 (And.intro @UNx74 (And.intro @UNx75 (And.intro @UNx76 (And.intro @UNx77 (And.intro @keeps.eq_1 (And.intro @aBuildVec.eq_1 (And.intro @sliceCells.eq_1 (And.intro @sliceCells.eq_2 (And.intro @sliceCells.eq_3 (And.intro @sliceCells.eq_4 (And.intro @aBuildSlice.eq_1 (And.intro @aIndexAddr.eq_1 (And.intro @aLoad.eq_1 (And.intro @runOf.eq_1 (And.intro @runOf.eq_2 (And.intro @ofCells.eq_1 (And.intro @withInt.eq_1 @fillA.eq_1)))))))))))))))))))))))))))))))))))))))
theorem UN5 : type_of% (And.intro @fillA.eq_2 (And.intro @fillA.eq_3 (And.intro @frzL.eq_1 (And.intro @listWith.eq_1 (And.intro @listWith.eq_2 (And.intro @frz.eq_1 (And.intro @frz.eq_2 (And.intro @frz.eq_3 (And.intro @frz.eq_4 (And.intro @UNx78 (And.intro @UNx79 (And.intro @UNx80 (And.intro @UNx81 (And.intro @UNx82 (And.intro @frz0.eq_1 (And.intro @frz0.eq_2 (And.intro @UNx83 (And.intro @UNx84 (And.intro @UNx85 (And.intro @UNx86 (And.intro @UNx87 (And.intro @UNx88 (And.intro @deep.eq_1 (And.intro @cellsA.eq_1 (And.intro @UNx89 (And.intro @UNx90 (And.intro @UNx91 (And.intro @UNx92 (And.intro @UNx93 (And.intro @UNx94 (And.intro @UNx95 (And.intro @setRun.eq_1 (And.intro @okCell.eq_1 (And.intro @okCell.eq_2 (And.intro @okCell.eq_3 (And.intro @okCell.eq_4 (And.intro @UNx96 (And.intro @UNx97 (And.intro @UNx98 @UNx99))))))))))))))))))))))))))))))))))))))) := (And.intro @fillA.eq_2 (And.intro @fillA.eq_3 (And.intro @frzL.eq_1 (And.intro @listWith.eq_1 (And.intro @listWith.eq_2 (And.intro @frz.eq_1 (And.intro @frz.eq_2 (And.intro @frz.eq_3 (And.intro @frz.eq_4 (And.intro @UNx78 (And.intro @UNx79 (And.intro @UNx80 (And.intro @UNx81 (And.intro @UNx82 (And.intro @frz0.eq_1 (And.intro @frz0.eq_2 (And.intro @UNx83 (And.intro @UNx84 (And.intro @UNx85 (And.intro @UNx86 (And.intro @UNx87 (And.intro @UNx88 (And.intro @deep.eq_1 (And.intro @cellsA.eq_1 (And.intro @UNx89 (And.intro @UNx90 (And.intro @UNx91 (And.intro @UNx92 (And.intro @UNx93 (And.intro @UNx94 (And.intro @UNx95 (And.intro @setRun.eq_1 (And.intro @okCell.eq_1 (And.intro @okCell.eq_2 (And.intro @okCell.eq_3 (And.intro @okCell.eq_4 (And.intro @UNx96 (And.intro @UNx97 (And.intro @UNx98 @UNx99)))))))))))))))))))))))))))))))))))))))
theorem UN6 : type_of% (And.intro @UNx100 (And.intro @UNx101 (And.intro @UNx102 (And.intro @UNx103 (And.intro @UNx104 (And.intro @UNx105 (And.intro @UNx106 (And.intro @UNx107 (And.intro @UNx108 (And.intro @UNx109 (And.intro @UNx110 (And.intro @UNx111 (And.intro @notJunk.eq_1 (And.intro @UNx112 (And.intro @UNx113 (And.intro @UNx114 (And.intro @UNx115 (And.intro @UNx116 (And.intro @UNx117 (And.intro @UNx118 (And.intro @boxIds.eq_1 (And.intro @boxIds.eq_2 (And.intro @boxIds.eq_3 (And.intro @UNx119 (And.intro @UNx120 (And.intro @UNx121 (And.intro @UNx122 (And.intro @aResults.eq_1 (And.intro @aResults.eq_2 (And.intro @aResult.eq_1 (And.intro @aResult.eq_2 (And.intro @outAs.eq_1 (And.intro @outAs.eq_2 (And.intro @tupA.eq_1 (And.intro @UNx123 (And.intro @UNx124 (And.intro @evNilCheck.eq_1 (And.intro @evNilCheck.eq_2 (And.intro @evNilCheck.eq_3 @evNilCheck.eq_4))))))))))))))))))))))))))))))))))))))) := (And.intro @UNx100 (And.intro @UNx101 (And.intro @UNx102 (And.intro @UNx103 (And.intro @UNx104 (And.intro @UNx105 (And.intro @UNx106 (And.intro @UNx107 (And.intro @UNx108 (And.intro @UNx109 (And.intro @UNx110 (And.intro @UNx111 (And.intro @notJunk.eq_1 (And.intro @UNx112 (And.intro @UNx113 (And.intro @UNx114 (And.intro @UNx115 (And.intro @UNx116 (And.intro @UNx117 (And.intro @UNx118 (And.intro @boxIds.eq_1 (And.intro @boxIds.eq_2 (And.intro @boxIds.eq_3 (And.intro @UNx119 (And.intro @UNx120 (And.intro @UNx121 (And.intro @UNx122 (And.intro @aResults.eq_1 (And.intro @aResults.eq_2 (And.intro @aResult.eq_1 (And.intro @aResult.eq_2 (And.intro @outAs.eq_1 (And.intro @outAs.eq_2 (And.intro @tupA.eq_1 (And.intro @UNx123 (And.intro @UNx124 (And.intro @evNilCheck.eq_1 (And.intro @evNilCheck.eq_2 (And.intro @evNilCheck.eq_3 @evNilCheck.eq_4)))))))))))))))))))))))))))))))))))))))
theorem UN7 : type_of% (And.intro @aMove.eq_1 (And.intro @aMove.eq_2 (And.intro @opds.eq_1 (And.intro @opds.eq_2 (And.intro @opds.eq_3 (And.intro @opds.eq_4 (And.intro @opds.eq_5 (And.intro @opds.eq_6 (And.intro @opds.eq_7 (And.intro @opds.eq_8 (And.intro @opds.eq_9 (And.intro @opds.eq_10 (And.intro @opds.eq_11 (And.intro @opds.eq_12 (And.intro @opds.eq_13 (And.intro @opds.eq_14 (And.intro @opds.eq_15 (And.intro @opds.eq_16 (And.intro @opds.eq_17 (And.intro @opds.eq_18 (And.intro @opds.eq_19 (And.intro @opds.eq_20 (And.intro @opds.eq_21 (And.intro @opds.eq_22 (And.intro @opds.eq_23 (And.intro @opds.eq_24 (And.intro @evOp.eq_1 (And.intro @asOper.eq_1 (And.intro @one.eq_1 (And.intro @two.eq_1 (And.intro @three.eq_1 (And.intro @UNx125 (And.intro @UNx126 (And.intro @UNx127 (And.intro @UNx128 (And.intro @aMapLen.eq_1 (And.intro @lookOut.eq_1 (And.intro @evAssign.eq_1 (And.intro @UNx129 @UNx130))))))))))))))))))))))))))))))))))))))) := (And.intro @aMove.eq_1 (And.intro @aMove.eq_2 (And.intro @opds.eq_1 (And.intro @opds.eq_2 (And.intro @opds.eq_3 (And.intro @opds.eq_4 (And.intro @opds.eq_5 (And.intro @opds.eq_6 (And.intro @opds.eq_7 (And.intro @opds.eq_8 (And.intro @opds.eq_9 (And.intro @opds.eq_10 (And.intro @opds.eq_11 (And.intro @opds.eq_12 (And.intro @opds.eq_13 (And.intro @opds.eq_14 (And.intro @opds.eq_15 (And.intro @opds.eq_16 (And.intro @opds.eq_17 (And.intro @opds.eq_18 (And.intro @opds.eq_19 (And.intro @opds.eq_20 (And.intro @opds.eq_21 (And.intro @opds.eq_22 (And.intro @opds.eq_23 (And.intro @opds.eq_24 (And.intro @evOp.eq_1 (And.intro @asOper.eq_1 (And.intro @one.eq_1 (And.intro @two.eq_1 (And.intro @three.eq_1 (And.intro @UNx125 (And.intro @UNx126 (And.intro @UNx127 (And.intro @UNx128 (And.intro @aMapLen.eq_1 (And.intro @lookOut.eq_1 (And.intro @evAssign.eq_1 (And.intro @UNx129 @UNx130)))))))))))))))))))))))))))))))))))))))
theorem UN8 : type_of% (And.intro @UNx131 (And.intro @UNx132 (And.intro @UNx133 (And.intro @UNx134 (And.intro @UNx135 (And.intro @UNx136 (And.intro @UNx137 (And.intro @UNx138 (And.intro @UNx139 (And.intro @UNx140 (And.intro @UNx141 (And.intro @UNx142 (And.intro @UNx143 (And.intro @UNx144 (And.intro @UNx145 (And.intro @UNx146 (And.intro @UNx147 (And.intro @UNx148 (And.intro @UNx149 (And.intro @UNx150 (And.intro @aNew.eq_1 (And.intro @evSlice.eq_1 (And.intro @evSlice.eq_2 (And.intro @evSlice.eq_3 (And.intro @evSlice.eq_4 (And.intro @evField.eq_1 (And.intro @evExtract.eq_1 (And.intro @evFunc.eq_1 (And.intro @pureOp.eq_1 (And.intro @pureOp.eq_2 (And.intro @pureOp.eq_3 (And.intro @pureOp.eq_4 (And.intro @pureOp.eq_5 (And.intro @pureOp.eq_6 (And.intro @pureOp.eq_7 (And.intro @pureOp.eq_8 (And.intro @pureOp.eq_9 (And.intro @pureOp.eq_10 (And.intro @pureOp.eq_11 @isCall.eq_1))))))))))))))))))))))))))))))))))))))) := (And.intro @UNx131 (And.intro @UNx132 (And.intro @UNx133 (And.intro @UNx134 (And.intro @UNx135 (And.intro @UNx136 (And.intro @UNx137 (And.intro @UNx138 (And.intro @UNx139 (And.intro @UNx140 (And.intro @UNx141 (And.intro @UNx142 (And.intro @UNx143 (And.intro @UNx144 (And.intro @UNx145 (And.intro @UNx146 (And.intro @UNx147 (And.intro @UNx148 (And.intro @UNx149 (And.intro @UNx150 (And.intro @aNew.eq_1 (And.intro @evSlice.eq_1 (And.intro @evSlice.eq_2 (And.intro @evSlice.eq_3 (And.intro @evSlice.eq_4 (And.intro @evField.eq_1 (And.intro @evExtract.eq_1 (And.intro @evFunc.eq_1 (And.intro @pureOp.eq_1 (And.intro @pureOp.eq_2 (And.intro @pureOp.eq_3 (And.intro @pureOp.eq_4 (And.intro @pureOp.eq_5 (And.intro @pureOp.eq_6 (And.intro @pureOp.eq_7 (And.intro @pureOp.eq_8 (And.intro @pureOp.eq_9 (And.intro @pureOp.eq_10 (And.intro @pureOp.eq_11 @isCall.eq_1)))))))))))))))))))))))))))))))))))))))
theorem UN9 : type_of% (And.intro @UNx151 (And.intro @UNx152 (And.intro @UNx153 (And.intro @UNx154 (And.intro @UNx155 (And.intro @UNx156 (And.intro @UNx157 (And.intro @UNx158 (And.intro @UNx159 (And.intro @UNx160 (And.intro @UNx161 (And.intro @UNx162 (And.intro @UNx163 (And.intro @UNx164 (And.intro @UNx165 (And.intro @UNx166 (And.intro @UNx167 (And.intro @UNx168 (And.intro @UNx169 (And.intro @UNx170 (And.intro @UNx171 (And.intro @UNx172 (And.intro @UNx173 (And.intro @UNx174 (And.intro @UNx175 (And.intro @UNx176 (And.intro @UNx177 (And.intro @UNx178 (And.intro @UNx179 (And.intro @UNx180 (And.intro @UNx181 (And.intro @UNx182 (And.intro @UNx183 (And.intro @UNx184 (And.intro @UNx185 (And.intro @UNx186 (And.intro @UNx187 (And.intro @UNx188 (And.intro @UNx189 @UNx190))))))))))))))))))))))))))))))))))))))) := (And.intro @UNx151 (And.intro @UNx152 (And.intro @UNx153 (And.intro @UNx154 (And.intro @UNx155 (And.intro @UNx156 (And.intro @UNx157 (And.intro @UNx158 (And.intro @UNx159 (And.intro @UNx160 (And.intro @UNx161 (And.intro @UNx162 (And.intro @UNx163 (And.intro @UNx164 (And.intro @UNx165 (And.intro @UNx166 (And.intro @UNx167 (And.intro @UNx168 (And.intro @UNx169 (And.intro @UNx170 (And.intro @UNx171 (And.intro @UNx172 (And.intro @UNx173 (And.intro @UNx174 (And.intro @UNx175 (And.intro @UNx176 (And.intro @UNx177 (And.intro @UNx178 (And.intro @UNx179 (And.intro @UNx180 (And.intro @UNx181 (And.intro @UNx182 (And.intro @UNx183 (And.intro @UNx184 (And.intro @UNx185 (And.intro @UNx186 (And.intro @UNx187 (And.intro @UNx188 (And.intro @UNx189 @UNx190)))))))))))))))))))))))))))))))))))))))
theorem UN10 : type_of% (And.intro @UNx191 (And.intro @UNx192 (And.intro @back.eq_1 (And.intro @putBack.eq_1 (And.intro @putBack.eq_2 (And.intro @putBack.eq_3 (And.intro @fuelR.eq_1 (And.intro @closed.eq_1 (And.intro @aStore.eq_1 (And.intro @thawCells.eq_1 (And.intro @thawCells.eq_2 (And.intro @UNx193 (And.intro @UNx194 (And.intro @UNx195 (And.intro @UNx196 (And.intro @UNx197 (And.intro @UNx198 (And.intro @UNx199 (And.intro @UNx200 (And.intro @UNx201 (And.intro @UNx202 (And.intro @UNx203 (And.intro @UNx204 (And.intro @UNx205 (And.intro @UNx206 (And.intro @UNx207 (And.intro @UNx208 (And.intro @UNx209 (And.intro @UNx210 (And.intro @UNx211 (And.intro @place.eq_1 (And.intro @place.eq_2 (And.intro @pack.eq_1 (And.intro @mapO.eq_1 (And.intro @mapO.eq_2 (And.intro @UNx212 (And.intro @UNx213 (And.intro @UNx214 (And.intro @UNx215 @maxNeed.eq_1))))))))))))))))))))))))))))))))))))))) := (And.intro @UNx191 (And.intro @UNx192 (And.intro @back.eq_1 (And.intro @putBack.eq_1 (And.intro @putBack.eq_2 (And.intro @putBack.eq_3 (And.intro @fuelR.eq_1 (And.intro @closed.eq_1 (And.intro @aStore.eq_1 (And.intro @thawCells.eq_1 (And.intro @thawCells.eq_2 (And.intro @UNx193 (And.intro @UNx194 (And.intro @UNx195 (And.intro @UNx196 (And.intro @UNx197 (And.intro @UNx198 (And.intro @UNx199 (And.intro @UNx200 (And.intro @UNx201 (And.intro @UNx202 (And.intro @UNx203 (And.intro @UNx204 (And.intro @UNx205 (And.intro @UNx206 (And.intro @UNx207 (And.intro @UNx208 (And.intro @UNx209 (And.intro @UNx210 (And.intro @UNx211 (And.intro @place.eq_1 (And.intro @place.eq_2 (And.intro @pack.eq_1 (And.intro @mapO.eq_1 (And.intro @mapO.eq_2 (And.intro @UNx212 (And.intro @UNx213 (And.intro @UNx214 (And.intro @UNx215 @maxNeed.eq_1)))))))))))))))))))))))))))))))))))))))
theorem UN11 : type_of% (And.intro @frzA.eq_1 (And.intro @UNx216 (And.intro @UNx217 (And.intro @UNx218 (And.intro @UNx219 (And.intro @UNx220 (And.intro @UNx221 (And.intro @UNx222 (And.intro @frzAs.eq_1 (And.intro @frzAs.eq_2 (And.intro @memD.eq_1 (And.intro @lentA.eq_1 (And.intro @footC.eq_1 (And.intro @evCallee.eq_1 (And.intro @evCallee.eq_2 (And.intro @evCallee.eq_3 @UNx223)))))))))))))))) := (And.intro @frzA.eq_1 (And.intro @UNx216 (And.intro @UNx217 (And.intro @UNx218 (And.intro @UNx219 (And.intro @UNx220 (And.intro @UNx221 (And.intro @UNx222 (And.intro @frzAs.eq_1 (And.intro @frzAs.eq_2 (And.intro @memD.eq_1 (And.intro @lentA.eq_1 (And.intro @footC.eq_1 (And.intro @evCallee.eq_1 (And.intro @evCallee.eq_2 (And.intro @evCallee.eq_3 @UNx223))))))))))))))))
theorem UN : type_of% (And.intro @UN0 (And.intro @UN1 (And.intro @UN2 (And.intro @UN3 (And.intro @UN4 (And.intro @UN5 (And.intro @UN6 (And.intro @UN7 (And.intro @UN8 (And.intro @UN9 (And.intro @UN10 @UN11))))))))))) := (And.intro @UN0 (And.intro @UN1 (And.intro @UN2 (And.intro @UN3 (And.intro @UN4 (And.intro @UN5 (And.intro @UN6 (And.intro @UN7 (And.intro @UN8 (And.intro @UN9 (And.intro @UN10 @UN11)))))))))))
theorem SLMx1 : type_of% (fun v0 v1 v2 v3 v4 => @slim.eq_9 v0 (Go.Code.rangeFunc v1 v2 v3 v4) (by nofun) (by nofun) (by nofun) (by nofun) (by nofun) (by nofun) (by nofun) (by nofun)) := (fun v0 v1 v2 v3 v4 => @slim.eq_9 v0 (Go.Code.rangeFunc v1 v2 v3 v4) (by nofun) (by nofun) (by nofun) (by nofun) (by nofun) (by nofun) (by nofun) (by nofun))
theorem SLMx2 : type_of% (fun v0 v1 => @slim.eq_9 v0 (Go.Code.scope v1) (by nofun) (by nofun) (by nofun) (by nofun) (by nofun) (by nofun) (by nofun) (by nofun)) := (fun v0 v1 => @slim.eq_9 v0 (Go.Code.scope v1) (by nofun) (by nofun) (by nofun) (by nofun) (by nofun) (by nofun) (by nofun) (by nofun))
theorem SLMx3 : type_of% (fun v0 v1 => @slim.eq_9 v0 (Go.Code.label v1) (by nofun) (by nofun) (by nofun) (by nofun) (by nofun) (by nofun) (by nofun) (by nofun)) := (fun v0 v1 => @slim.eq_9 v0 (Go.Code.label v1) (by nofun) (by nofun) (by nofun) (by nofun) (by nofun) (by nofun) (by nofun) (by nofun))
theorem SLMx4 : type_of% (fun v0 v1 => @slim.eq_9 v0 (Go.Code.goto v1) (by nofun) (by nofun) (by nofun) (by nofun) (by nofun) (by nofun) (by nofun) (by nofun)) := (fun v0 v1 => @slim.eq_9 v0 (Go.Code.goto v1) (by nofun) (by nofun) (by nofun) (by nofun) (by nofun) (by nofun) (by nofun) (by nofun))
theorem SLMx5 : type_of% (fun v0 v1 => @slim.eq_9 v0 (Go.Code.refuse v1) (by nofun) (by nofun) (by nofun) (by nofun) (by nofun) (by nofun) (by nofun) (by nofun)) := (fun v0 v1 => @slim.eq_9 v0 (Go.Code.refuse v1) (by nofun) (by nofun) (by nofun) (by nofun) (by nofun) (by nofun) (by nofun) (by nofun))
theorem SLMx6 : type_of% (@loops.eq_5 Go.Code.skip (by nofun) (by nofun) (by nofun) (by nofun)) := (@loops.eq_5 Go.Code.skip (by nofun) (by nofun) (by nofun) (by nofun))
theorem SLMx7 : type_of% (fun v0 v1 v2 => @loops.eq_5 (Go.Code.region v0 v1 v2) (by nofun) (by nofun) (by nofun) (by nofun)) := (fun v0 v1 v2 => @loops.eq_5 (Go.Code.region v0 v1 v2) (by nofun) (by nofun) (by nofun) (by nofun))
theorem SLMx8 : type_of% (fun v0 v1 v2 v3 => @loops.eq_5 (Go.Code.rangeFunc v0 v1 v2 v3) (by nofun) (by nofun) (by nofun) (by nofun)) := (fun v0 v1 v2 v3 => @loops.eq_5 (Go.Code.rangeFunc v0 v1 v2 v3) (by nofun) (by nofun) (by nofun) (by nofun))
theorem SLMx9 : type_of% (fun v0 => @loops.eq_5 (Go.Code.exit v0) (by nofun) (by nofun) (by nofun) (by nofun)) := (fun v0 => @loops.eq_5 (Go.Code.exit v0) (by nofun) (by nofun) (by nofun) (by nofun))
theorem SLMx10 : type_of% (fun v0 => @loops.eq_5 (Go.Code.scope v0) (by nofun) (by nofun) (by nofun) (by nofun)) := (fun v0 => @loops.eq_5 (Go.Code.scope v0) (by nofun) (by nofun) (by nofun) (by nofun))
theorem SLMx11 : type_of% (fun v0 => @loops.eq_5 (Go.Code.label v0) (by nofun) (by nofun) (by nofun) (by nofun)) := (fun v0 => @loops.eq_5 (Go.Code.label v0) (by nofun) (by nofun) (by nofun) (by nofun))
theorem SLMx12 : type_of% (fun v0 => @loops.eq_5 (Go.Code.goto v0) (by nofun) (by nofun) (by nofun) (by nofun)) := (fun v0 => @loops.eq_5 (Go.Code.goto v0) (by nofun) (by nofun) (by nofun) (by nofun))
theorem SLMx13 : type_of% (@loops.eq_5 Go.Code.ret (by nofun) (by nofun) (by nofun) (by nofun)) := (@loops.eq_5 Go.Code.ret (by nofun) (by nofun) (by nofun) (by nofun))
theorem SLMx14 : type_of% (fun v0 => @loops.eq_5 (Go.Code.refuse v0) (by nofun) (by nofun) (by nofun) (by nofun)) := (fun v0 => @loops.eq_5 (Go.Code.refuse v0) (by nofun) (by nofun) (by nofun) (by nofun))
theorem SLM0 : type_of% (And.intro @Option.getD_some.{0} (And.intro @List.length_nil.{0} (And.intro @Nat.add_zero (And.intro @Nat.zero_add (And.intro @List.map_cons.{0, 0} (And.intro @List.map_nil.{0, 0} (And.intro @List.getElem?_cons_zero.{0} (And.intro @List.getElem?_cons_succ.{0} (And.intro @Option.bind_some.{0, 0} (And.intro @Bool.false_eq_true (And.intro @if_false.{0} (And.intro @if_true.{0} (And.intro @List.length_cons.{0} (And.intro @List.replicate.eq_1.{0} (And.intro @List.replicate.eq_2.{0} (And.intro @List.cons_append.{0} (And.intro @List.nil_append.{0} (And.intro @List.append_nil.{0} (And.intro @List.getD_cons_zero.{0} (And.intro @List.getD_cons_succ.{0} (And.intro @slimF.eq_1 (And.intro @slimL.eq_1 (And.intro @lpOf.eq_1 (And.intro @codeOf.eq_1 (And.intro @slim.eq_1 (And.intro @slim.eq_2 (And.intro @slim.eq_3 (And.intro @slim.eq_4 (And.intro @slim.eq_5 (And.intro @slim.eq_6 (And.intro @slim.eq_7 (And.intro @slim.eq_8 (And.intro @SLMx1 (And.intro @SLMx2 (And.intro @SLMx3 (And.intro @SLMx4 (And.intro @SLMx5 (And.intro @loops.eq_1 (And.intro @loops.eq_2 @loops.eq_3))))))))))))))))))))))))))))))))))))))) := (And.intro @Option.getD_some.{0} (And.intro @List.length_nil.{0} (And.intro @Nat.add_zero (And.intro @Nat.zero_add (And.intro @List.map_cons.{0, 0} (And.intro @List.map_nil.{0, 0} (And.intro @List.getElem?_cons_zero.{0} (And.intro @List.getElem?_cons_succ.{0} (And.intro @Option.bind_some.{0, 0} (And.intro @Bool.false_eq_true (And.intro @if_false.{0} (And.intro @if_true.{0} (And.intro @List.length_cons.{0} (And.intro @List.replicate.eq_1.{0} (And.intro @List.replicate.eq_2.{0} (And.intro @List.cons_append.{0} (And.intro @List.nil_append.{0} (And.intro @List.append_nil.{0} (And.intro @List.getD_cons_zero.{0} (And.intro @List.getD_cons_succ.{0} (And.intro @slimF.eq_1 (And.intro @slimL.eq_1 (And.intro @lpOf.eq_1 (And.intro @codeOf.eq_1 (And.intro @slim.eq_1 (And.intro @slim.eq_2 (And.intro @slim.eq_3 (And.intro @slim.eq_4 (And.intro @slim.eq_5 (And.intro @slim.eq_6 (And.intro @slim.eq_7 (And.intro @slim.eq_8 (And.intro @SLMx1 (And.intro @SLMx2 (And.intro @SLMx3 (And.intro @SLMx4 (And.intro @SLMx5 (And.intro @loops.eq_1 (And.intro @loops.eq_2 @loops.eq_3)))))))))))))))))))))))))))))))))))))))
theorem SLM1 : type_of% (And.intro @loops.eq_4 (And.intro @SLMx6 (And.intro @SLMx7 (And.intro @SLMx8 (And.intro @SLMx9 (And.intro @SLMx10 (And.intro @SLMx11 (And.intro @SLMx12 (And.intro @SLMx13 (And.intro @SLMx14 (And.intro @slimO.eq_1 (And.intro @slimG.eq_1 @slimG.eq_2)))))))))))) := (And.intro @loops.eq_4 (And.intro @SLMx6 (And.intro @SLMx7 (And.intro @SLMx8 (And.intro @SLMx9 (And.intro @SLMx10 (And.intro @SLMx11 (And.intro @SLMx12 (And.intro @SLMx13 (And.intro @SLMx14 (And.intro @slimO.eq_1 (And.intro @slimG.eq_1 @slimG.eq_2))))))))))))
theorem SLM : type_of% (And.intro @SLM0 @SLM1) := (And.intro @SLM0 @SLM1)
theorem LN : type_of% (And.intro @List.length_append.{0} (And.intro @List.length_cons.{0} (And.intro @List.length_nil.{0} (And.intro @List.length_set.{0} (And.intro @List.length_replicate.{0} (And.intro @List.length_map.{0, 0} (And.intro @List.length_take.{0} @List.length_drop.{0}))))))) := And.intro @List.length_append.{0} (And.intro @List.length_cons.{0} (And.intro @List.length_nil.{0} (And.intro @List.length_set.{0} (And.intro @List.length_replicate.{0} (And.intro @List.length_map.{0, 0} (And.intro @List.length_take.{0} @List.length_drop.{0}))))))
theorem GT : type_of% (And.intro @List.getElem?_cons_zero.{0} @List.getElem?_cons_succ.{0}) := And.intro @List.getElem?_cons_zero.{0} @List.getElem?_cons_succ.{0}
end Ev
end Go.Proofs.Ytppdfjdfjfoddaa
