/-
  How each operation goes, in the form in which the evaluator is walked.
-/
import Derived.Test.YtppdfjdfjfoddaaEvPrim
set_option linter.unusedSimpArgs false
set_option linter.unusedVariables false
namespace Go.Proofs.Ytppdfjdfjfoddaa
namespace Ev
section
variable {R : Type} {E : Env} {call : x1e} {thaw : List Nat} {dst : Option Tmp} {s : List A} {h : H} {k : A → H → Option R}
structure Now (p : Prop) : Prop where
 it : p
structure Shut (p : Prop) : Prop where
 it : p
inductive Box (α : Type) where
 | mk (a : α)
 | no
def box {α : Type} (a : α) : Box α := .mk a
theorem x1un {α : Type} {a : α} : box a = .mk a := rfl
theorem x1su {t : Nat} {q : A → Option R} : kv s (.tmp t) q = match box (s.getD t (.d .undef)) with | .no => none | .mk a => q a := rfl
theorem x1tu {K : IntKind} {n : Int} {q : A → Option R} : kv s (.const (.int K n)) q = q (.d (.int K n)) := rfl
theorem x1pd {b : Bool} {q : A → Option R} : kv s (.const (.bool b)) q = q (.d (.bool b)) := rfl
theorem x1up {b : ByteArray} {q : A → Option R} : kv s (.const (.string b)) q = match box b.data.toList with | .no => none | .mk l => q (.d (.str l)) := rfl
theorem x1qi {q : A → Option R} : kv s (.const (.pointer none)) q = q (.d .nilp) := rfl
theorem x1qf {q : A → Option R} : kv s (.const (.slice none 0 0)) q = q (.d .nils) := rfl
theorem x1pt {f : FuncId} {q : A → Option R} : kv s (.func f) q = q (.clo f []) := rfl
theorem x1sx {cs : Array Value} {q : A → Option R} : kv s (.const (.agg cs)) q = match xid cs.toList with
  | some as => q (.agg as)
  | none => none := by
 unfold kv; simp only [x2j,xrh]
 cases xid cs.toList <;> rfl
theorem x1pe {q : List A → Option R} : kvs s [] q = q [] := rfl
theorem x1nm {x : Operand} {xs : List Operand} {q : List A → Option R} : kvs s (x :: xs) q = kv s x fun a => kvs s xs fun as => q (a :: as) := by
 unfold kvs kv
 simp only [x1t]
 cases x2j s x with
 | none => rfl
 | some a => cases x1t s xs <;> rfl
theorem x17i {yes no : List A → Option R} : xhc none s yes no = yes s := rfl
theorem x182 {t : Nat} {w : Bool} {yes no : List A → Option R} : xhc (some (some t,w)) s yes no = match s.getD t .junk with
  | .d (.bool b) => if b = w then (match box (s.set t (.d (.bool w))) with | .no => none | .mk s => yes s) else (match box (s.set t (.d (.bool (!w)))) with | .no => none | .mk s => no s)
  | .d .undef => no s
  | _ => none := by
 simp only [xhc,List.getD_eq_getElem?_getD]
 cases s[t]? with
 | none => rfl
 | some a =>
  cases a with
  | d x => cases x <;> rfl
  | _ => rfl
theorem x1mn {x : Operand} : kOp E call thaw dst (.move x) s h k = kv s x fun a => k a h := by
 unfold kOp kvs kv
 simp only [opds,x1t]
 cases x2j s x <;> rfl
def kAsg (thaw : List Nat) (dst : Option Tmp) (h : H) (k : A → H → Option R) (a : A) : Option R :=
 match a with
 | .d .nils => match xnz thaw dst with
  | 0 => k (.d .nils) h
  | e + 1 => if e < 1000 then k (.sl h.length 0 0 0) (h ++ [.arr [] e 0]) else k (.sl h.length 0 0 0) (h ++ [.vec [] (e - 1000) 0])
 | a => k a h
theorem xxf {t : Nat} : kOp E call thaw dst (.assign (.tmp t)) s h k = match box (s.getD t (.d .undef)) with | .no => none | .mk a => k a h := by
 unfold kOp kvs
 simp only [opds,x1t,x2j,x1b,Bool.false_eq_true,if_false]
 rfl
theorem xro {v : Value} : kOp E call thaw dst (.assign (.const v)) s h k = kv s (.const v) (kAsg thaw dst h k) := by
 unfold kOp kvs kv kAsg
 simp only [opds,x1t]
 cases x2j s (.const v) with
 | none => rfl
 | some a =>
  simp only [x1b,Bool.false_eq_true,if_false,evOp,one,x2n,x7n]
  cases a with
  | d x =>
   cases x with
   | nils => cases ht : xnz thaw dst with
    | zero => simp [ht]
    | succ e => by_cases he : e < 1000 <;> simp [ht,he]
   | _ => rfl
  | _ => rfl
theorem xvf {f : FuncId} : kOp E call thaw dst (.assign (.func f)) s h k = k (.clo f []) h := by
 rfl
def kRet (r : Option (A × H)) (k : A → H → Option R) : Option R :=
 match r with
 | some (a,h') => k a h'
 | none => none
theorem x1p7 {op : BinOp} {t : TypeId} {x y : Operand} {t2 : TypeId} : kOp E call thaw dst (.binOp op t x y t2) s h k = kv s x fun a => kv s y fun b => kRet (x24 E op t h a b) k := by
 unfold kOp kvs kv kRet
 simp only [opds,x1t]
 cases x2j s x with
 | none => rfl
 | some a => cases x2j s y <;> rfl
theorem x1vm {op : UnOp} {t : TypeId} {x : Operand} : kOp E call thaw dst (.unOp op t x) s h k = kv s x fun a => kRet ((aUn op a).map fun r => (r,h)) k := by
 unfold kOp kvs kv kRet
 simp only [opds,x1t]
 cases x2j s x <;> rfl
theorem x1lu {c x y : Operand} : kOp E call thaw dst (.pick c x y) s h k = kv s c fun b => kv s x fun a => kv s y fun a' => kRet (xxs h [b,a,a']) k := by
 unfold kOp kvs kv kRet
 simp only [opds,x1t]
 cases x2j s c with
 | none => rfl
 | some b => cases x2j s x with
  | none => rfl
  | some a => cases x2j s y <;> rfl
theorem x146 {x : Operand} : kOp E call thaw dst (.nilCheck x) s h k = kv s x fun a => kRet (x6m h a) k := by
 unfold kOp kvs kv kRet
 simp only [opds,x1t]
 cases x2j s x <;> rfl
theorem x1ng {t u : TypeId} {x : Operand} : kOp E call thaw dst (.convert t u x) s h k = kv s x fun a => kRet (x4e E.P h t u a) k := by
 unfold kOp kvs kv kRet
 simp only [opds,x1t]
 cases x2j s x <;> rfl
theorem x1kt {t : TypeId} {x : Operand} : kOp E call thaw dst (.load t x) s h k = kv s x fun a => kRet ((xnh E.P h t a).map fun v => (v,h)) k := by
 unfold kOp kvs kv kRet
 simp only [opds,x1t]
 cases x2j s x <;> rfl
theorem x1g1 {t : TypeId} {x y : Operand} : kOp E call thaw dst (.store t x y) s h k = kv s x fun a => kv s y fun b => kRet ((x92 E.P h t a b).map fun h' => (.d .undef,h')) k := by
 unfold kOp kvs kv kRet
 simp only [opds,x1t]
 cases x2j s x with
 | none => rfl
 | some a => cases x2j s y <;> rfl
theorem x1gd {t : TypeId} : kOp E call thaw dst (.alloc t) s h k = match box (x17 E.P t) with
  | .no => none
  | .mk none => none
  | .mk (some z) => kRet (aNew h z) k := by
 unfold kOp kvs kRet
 simp only [opds,x1t,x1b,Bool.false_eq_true,if_false,evOp,x7n,box]
 cases x17 E.P t <;> rfl
theorem x1qc {t : TypeId} {x : Operand} : kOp E call thaw dst (.box t x) s h k = kv s x fun a => kRet (aNew h a) k := by
 unfold kOp kvs kv kRet
 simp only [opds,x1t]
 cases x2j s x <;> rfl
theorem x1it {t : TypeId} {ps : List (Nat × Operand)} : kOp E call thaw dst (.build t ps.toArray) s h k = match box (ps.map (·.2)) with
  | .no => none
  | .mk xs => kvs s xs fun vs => kRet ((x5t E.P t ((ps.map (·.1)).zip vs)).map fun a => (a,h)) k := by
 unfold kOp kRet
 rfl
theorem xwv {t : TypeId} {n : Nat} {ps : List (Nat × Operand)} : kOp E call thaw dst (.buildSlice t n ps.toArray) s h k = match box (ps.map (·.2)) with
  | .no => none
  | .mk xs => kvs s xs fun vs => kRet (if xzo thaw dst = true then xit E.P h t n ((ps.map (·.1)).zip vs) else xdj E.P h t n ((ps.map (·.1)).zip vs)) k := by
 unfold kOp kRet
 rfl
theorem x12n {fn : Fn} {cap : List Operand} : kOp E call thaw dst (.makeFunc fn #[] cap.toArray) s h k = kvs s cap fun vs => kRet (xx6 h fn true vs) k := by
 unfold kOp kRet
 rfl
theorem x10l {t : TypeId} {x y : Operand} : kOp E call thaw dst (.makeSlice t x y) s h k = kv s x fun a => kv s y fun b => kRet (x7t a fun l => x7t b fun c => if xzo thaw dst = true then xi0 E.P h t l c else x64 E.P h t l c) k := by
 unfold kOp kvs kv kRet
 simp only [opds,x1t]
 cases x2j s x with
 | none => rfl
 | some a => cases x2j s y <;> rfl
theorem x170 {t : TypeId} {x : Operand} : kOp E call thaw dst (.slice t x none none none) s h k = kvs s [x] fun vs => kRet (x7v E.P h t false false vs) k := rfl
theorem x16v {t : TypeId} {x lo : Operand} : kOp E call thaw dst (.slice t x (some lo) none none) s h k = kvs s [x,lo] fun vs => kRet (x7v E.P h t true false vs) k := rfl
theorem x16e {t : TypeId} {x hi : Operand} : kOp E call thaw dst (.slice t x none (some hi) none) s h k = kvs s [x,hi] fun vs => kRet (x7v E.P h t false true vs) k := rfl
theorem x171 {t : TypeId} {x lo hi : Operand} : kOp E call thaw dst (.slice t x (some lo) (some hi) none) s h k = kvs s [x,lo,hi] fun vs => kRet (x7v E.P h t true true vs) k := rfl
theorem x10q {t : TypeId} {x : Operand} {f : Nat} : kOp E call thaw dst (.fieldAddr t x f) s h k = kv s x fun a => kRet ((xu E.P t f).bind fun r => (xfq r.1 a).map fun r => (r,h)) k := by
 unfold kOp kvs kv kRet
 simp only [opds,x1t]
 cases x2j s x <;> rfl
theorem x1gf {t : TypeId} {x : Operand} {f : Nat} : kOp E call thaw dst (.field t x f) s h k = kv s x fun a => kRet (xr8 E.P h t f a) k := by
 unfold kOp kvs kv kRet
 simp only [opds,x1t]
 cases x2j s x <;> rfl
theorem x114 {t : TypeId} {x y : Operand} : kOp E call thaw dst (.indexAddr t x y) s h k = kv s x fun a => kv s y fun b => kRet (x7t b fun i => (xcr E.P h t a i).map fun r => (r,h)) k := by
 unfold kOp kvs kv kRet
 simp only [opds,x1t]
 cases x2j s x with
 | none => rfl
 | some a => cases x2j s y <;> rfl
theorem x1fx {t : TypeId} {x y : Operand} : kOp E call thaw dst (.index t x y) s h k = kv s x fun a => kv s y fun b => kRet (x7t b fun i => (xyc E.P t a i).map fun r => (r,h)) k := by
 unfold kOp kvs kv kRet
 simp only [opds,x1t]
 cases x2j s x with
 | none => rfl
 | some a => cases x2j s y <;> rfl
theorem x16y {t : TypeId} : kOp E call thaw dst (.makeMap t none) s h k = k (.mp h.length) (h ++ [.mp []]) := rfl
theorem x1c5 {t : TypeId} {x y : Operand} {ok : Bool} : kOp E call thaw dst (.lookup t x y ok) s h k = kv s x fun a => kv s y fun b => kRet (xwt E.P h t ok a b) k := by
 unfold kOp kvs kv kRet
 simp only [opds,x1t]
 cases x2j s x with
 | none => rfl
 | some a => cases x2j s y <;> rfl
theorem x10u {t : TypeId} {x y z : Operand} : kOp E call thaw dst (.mapUpdate t x y z) s h k = kv s x fun a => kv s y fun b => kv s z fun c => kRet (xr1 E.P h t a b c) k := by
 unfold kOp kvs kv kRet
 simp only [opds,x1t]
 cases x2j s x with
 | none => rfl
 | some a => cases x2j s y with
  | none => rfl
  | some b => cases x2j s z <;> rfl
theorem x17r {x : Operand} {i : Nat} : kOp E call thaw dst (.extract x i) s h k = kv s x fun a => kRet (xin h i a) k := by
 unfold kOp kvs kv kRet
 simp only [opds,x1t]
 cases x2j s x <;> rfl
theorem x181 {b : Builtin} {args : List Operand} {tys : List TypeId} : kOp E call thaw dst (.call ⟨.builtin b,args.toArray,tys.toArray⟩) s h k = kvs s args fun vs => kRet (x2b E.P h b tys vs) k := by
 unfold kOp kRet
 rfl
theorem x2z {op : Op} {q : A → H → Foot → Option R} (hp : Now (x21 op = true ∧ x1b op = false)) : kOpD E call thaw dst op s h q = kOp E call thaw dst op s h fun a _ => q a h {} := by
 obtain ⟨hp,hc⟩ := hp.it
 unfold kOpD kOp kvs
 rw [hp,hc]
 cases x1t s (opds op) with
 | none => rfl
 | some vs =>
  simp only [if_true,Bool.false_eq_true,if_false]
def memD (E : Env) (call : x1e) (thaw : List Nat) (dst : Option Tmp) (op : Op) (h : H) (vs : List A) : Option (A × H × Foot) := match box (x5 x7 h (idsL vs) []) with
 | .no => none
 | .mk ord => match box (evOp E call thaw (pack h ord) (x7n dst op) (xd (x8 ord) vs)) with
  | .mk (some (a,h1)) => if ord.length ≤ h1.length ∧ closed h ord (idsL vs) = true then
    (if (x4h E op vs && h1.length - ord.length == 0) = true then some (mapA (back ord h.length h1.length) a,h,{ ids := ord,ro := true })
    else some (mapA (back ord h.length h1.length) a,xx (back ord h.length h1.length) h ord h1,{ ids := ord ++ List.range' h.length (h1.length - ord.length),ro := false,wr := wrOf E op vs ord ++ List.range' h.length (h1.length - ord.length) }))
   else none
  | _ => none
theorem x4k {op : Op} {q : A → H → Foot → Option R} (hp : Now (x21 op = false ∧ xa2 op = false)) : kOpD E call thaw dst op s h q = match box (opds op) with | .no => none | .mk xs => kvs s xs fun vs => match box (memD E call thaw dst op h vs) with
  | .mk (some (a,h',c)) => q a h' c
  | _ => none := by
 simp only [box]
 unfold kOpD kvs
 rw [hp.it.1,hp.it.2]
 cases x1t s (opds op) with
 | none => rfl
 | some vs =>
  simp only [Bool.false_eq_true,if_false,xag,memD,box]
  cases evOp E call thaw (pack h (x5 x7 h (idsL vs) [])) (x7n dst op) (xd (x8 (x5 x7 h (idsL vs) [])) vs) with
  | none => rfl
  | some r =>
   obtain ⟨a,h1⟩ := r
   by_cases hc : (x5 x7 h (idsL vs) []).length ≤ h1.length ∧ closed h (x5 x7 h (idsL vs) []) (idsL vs) = true
   ·simp only [if_pos hc]
    by_cases hr : (x4h E op vs && h1.length - (x5 x7 h (idsL vs) []).length == 0) = true
    ·simp only [if_pos hr]
    ·simp only [if_neg hr]
   ·simp only [if_neg hc]
theorem xoo {op : Op} {q : A → H → Foot → Option R} (hp : Now (x21 op = false ∧ xa2 op = true ∧ x1b op = false)) : kOpD E call thaw dst op s h q = kvs s (opds op) fun vs => kOp E call thaw dst op s h fun a _ => q a h { ids := ids0 vs,ro := true } := by
 unfold kOpD kOp kvs
 rw [hp.it.1,hp.it.2.1,hp.it.2.2]
 cases x1t s (opds op) with
 | none => rfl
 | some vs => simp only [Bool.false_eq_true,if_false,if_true]
theorem xtk {x : Operand} {xs : List Operand} {op : Op} {q : A → H → Foot → Option R} (hx : opds op = x :: xs) : (kvs s (opds op) fun vs => kOp E call thaw dst op s h fun a _ => q a h { ids := ids0 vs,ro := true }) = kv s x fun b => kOp E call thaw dst op s h fun a _ => q a h { ids := idsA b,ro := true } := by
 unfold kOp kv
 rw [hx]
 unfold kvs
 simp only [x1t]
 cases x2j s x with
 | none => rfl
 | some b =>
  cases x1t s xs with
  | none => rfl
  | some bs => rfl
theorem x1g7 {t : TypeId} {x : Operand} {q : A → H → Foot → Option R} : kOpD E call thaw dst (.load t x) s h q = kv s x fun b => kOp E call thaw dst (.load t x) s h fun a _ => q a h { ids := idsA b,ro := true } := (xoo ⟨rfl,rfl,rfl⟩).trans (xtk rfl)
theorem x188 {t : TypeId} {x y : Operand} {ok : Bool} {q : A → H → Foot → Option R} : kOpD E call thaw dst (.lookup t x y ok) s h q = kv s x fun b => kOp E call thaw dst (.lookup t x y ok) s h fun a _ => q a h { ids := idsA b,ro := true } := (xoo ⟨rfl,rfl,rfl⟩).trans (xtk rfl)
theorem x12l {t : TypeId} {q : A → H → Foot → Option R} : type_of% (x4k (E := E) (call := call) (thaw := thaw) (dst := dst) (s := s) (h := h) (op := .makeMap t none) (q := q) ⟨rfl,rfl⟩) := x4k ⟨rfl,rfl⟩
theorem xy8 {t : TypeId} {x y z : Operand} {q : A → H → Foot → Option R} : type_of% (x4k (E := E) (call := call) (thaw := thaw) (dst := dst) (s := s) (h := h) (op := .mapUpdate t x y z) (q := q) ⟨rfl,rfl⟩) := x4k ⟨rfl,rfl⟩
theorem x1cj {t : TypeId} {x y : Operand} {q : A → H → Foot → Option R} : type_of% (x4k (E := E) (call := call) (thaw := thaw) (dst := dst) (s := s) (h := h) (op := .store t x y) (q := q) ⟨rfl,rfl⟩) := x4k ⟨rfl,rfl⟩
theorem x185 {x : Operand} {q : A → H → Foot → Option R} : type_of% (x4k (E := E) (call := call) (thaw := thaw) (dst := dst) (s := s) (h := h) (op := .assign x) (q := q) ⟨rfl,rfl⟩) := x4k ⟨rfl,rfl⟩
theorem x1do {t : TypeId} {q : A → H → Foot → Option R} : type_of% (x4k (E := E) (call := call) (thaw := thaw) (dst := dst) (s := s) (h := h) (op := .alloc t) (q := q) ⟨rfl,rfl⟩) := x4k ⟨rfl,rfl⟩
theorem x1md {t : TypeId} {x : Operand} {q : A → H → Foot → Option R} : type_of% (x4k (E := E) (call := call) (thaw := thaw) (dst := dst) (s := s) (h := h) (op := .box t x) (q := q) ⟨rfl,rfl⟩) := x4k ⟨rfl,rfl⟩
theorem xvq {t : TypeId} {n : Nat} {ps : List (Nat × Operand)} {q : A → H → Foot → Option R} : type_of% (x4k (E := E) (call := call) (thaw := thaw) (dst := dst) (s := s) (h := h) (op := .buildSlice t n ps.toArray) (q := q) ⟨rfl,rfl⟩) := x4k ⟨rfl,rfl⟩
theorem x1hq {t u : TypeId} {x : Operand} {q : A → H → Foot → Option R} : type_of% (x4k (E := E) (call := call) (thaw := thaw) (dst := dst) (s := s) (h := h) (op := .convert t u x) (q := q) ⟨rfl,rfl⟩) := x4k ⟨rfl,rfl⟩
theorem xxp {t : TypeId} {x y : Operand} {q : A → H → Foot → Option R} : type_of% (x4k (E := E) (call := call) (thaw := thaw) (dst := dst) (s := s) (h := h) (op := .makeSlice t x y) (q := q) ⟨rfl,rfl⟩) := x4k ⟨rfl,rfl⟩
theorem x1c0 {t : TypeId} {x : Operand} {lo hi mx : Option Operand} {q : A → H → Foot → Option R} : kOpD E call thaw dst (.slice t x lo hi mx) s h q = kv s x fun b => kOp E call thaw dst (.slice t x lo hi mx) s h fun a _ => q a h { ids := idsA b,ro := true } := (xoo ⟨rfl,rfl,rfl⟩).trans (xtk rfl)
theorem xwm {t : TypeId} {x y : Operand} {q : A → H → Foot → Option R} : kOpD E call thaw dst (.indexAddr t x y) s h q = kv s x fun b => kOp E call thaw dst (.indexAddr t x y) s h fun a _ => q a h { ids := idsA b,ro := true } := (xoo ⟨rfl,rfl,rfl⟩).trans (xtk rfl)
theorem x16l {args tys : Array _} {q : A → H → Foot → Option R} : type_of% (x4k (E := E) (call := call) (thaw := thaw) (dst := dst) (s := s) (h := h) (op := .call ⟨.builtin .append,args,tys⟩) (q := q) ⟨rfl,rfl⟩) := x4k ⟨rfl,rfl⟩
theorem x1kp {x : Operand} {xs : List Operand} {tys : Array _} {q : A → H → Foot → Option R} : kOpD E call thaw dst (.call ⟨.builtin .len,(x :: xs).toArray,tys⟩) s h q = kv s x fun b => kOp E call thaw dst (.call ⟨.builtin .len,(x :: xs).toArray,tys⟩) s h fun a _ => q a h { ids := idsA b,ro := true } := (xoo ⟨rfl,rfl,rfl⟩).trans (xtk rfl)
theorem x1h8 {x : Operand} {q : A → H → Foot → Option R} : type_of% (x2z (E := E) (call := call) (thaw := thaw) (dst := dst) (s := s) (h := h) (op := .move x) (q := q) ⟨rfl,rfl⟩) := x2z ⟨rfl,rfl⟩
theorem x1h4 {c x y : Operand} {q : A → H → Foot → Option R} : type_of% (x2z (E := E) (call := call) (thaw := thaw) (dst := dst) (s := s) (h := h) (op := .pick c x y) (q := q) ⟨rfl,rfl⟩) := x2z ⟨rfl,rfl⟩
theorem x10m {x : Operand} {q : A → H → Foot → Option R} : type_of% (x2z (E := E) (call := call) (thaw := thaw) (dst := dst) (s := s) (h := h) (op := .nilCheck x) (q := q) ⟨rfl,rfl⟩) := x2z ⟨rfl,rfl⟩
theorem x1k9 {op : BinOp} {t : TypeId} {x y : Operand} {t2 : TypeId} {q : A → H → Foot → Option R} : type_of% (x2z (E := E) (call := call) (thaw := thaw) (dst := dst) (s := s) (h := h) (op := .binOp op t x y t2) (q := q) ⟨rfl,rfl⟩) := x2z ⟨rfl,rfl⟩
theorem x1py {op : UnOp} {t : TypeId} {x : Operand} {q : A → H → Foot → Option R} : type_of% (x2z (E := E) (call := call) (thaw := thaw) (dst := dst) (s := s) (h := h) (op := .unOp op t x) (q := q) ⟨rfl,rfl⟩) := x2z ⟨rfl,rfl⟩
theorem x11y {fn : Fn} {first cap : Array Operand} {q : A → H → Foot → Option R} : type_of% (x2z (E := E) (call := call) (thaw := thaw) (dst := dst) (s := s) (h := h) (op := .makeFunc fn first cap) (q := q) ⟨rfl,rfl⟩) := x2z ⟨rfl,rfl⟩
theorem xwo {t : TypeId} {x : Operand} {f : Nat} {q : A → H → Foot → Option R} : type_of% (x2z (E := E) (call := call) (thaw := thaw) (dst := dst) (s := s) (h := h) (op := .fieldAddr t x f) (q := q) ⟨rfl,rfl⟩) := x2z ⟨rfl,rfl⟩
theorem x1e1 {t : TypeId} {x : Operand} {f : Nat} {q : A → H → Foot → Option R} : type_of% (x2z (E := E) (call := call) (thaw := thaw) (dst := dst) (s := s) (h := h) (op := .field t x f) (q := q) ⟨rfl,rfl⟩) := x2z ⟨rfl,rfl⟩
theorem x1b8 {t : TypeId} {x y : Operand} {q : A → H → Foot → Option R} : type_of% (x2z (E := E) (call := call) (thaw := thaw) (dst := dst) (s := s) (h := h) (op := .index t x y) (q := q) ⟨rfl,rfl⟩) := x2z ⟨rfl,rfl⟩
theorem x12j {x : Operand} {i : Nat} {q : A → H → Foot → Option R} : type_of% (x2z (E := E) (call := call) (thaw := thaw) (dst := dst) (s := s) (h := h) (op := .extract x i) (q := q) ⟨rfl,rfl⟩) := x2z ⟨rfl,rfl⟩
theorem x1b1 {t : TypeId} {ps : Array (Nat × Operand)} {q : A → H → Foot → Option R} : type_of% (x2z (E := E) (call := call) (thaw := thaw) (dst := dst) (s := s) (h := h) (op := .build t ps) (q := q) ⟨rfl,rfl⟩) := x2z ⟨rfl,rfl⟩
def x1ku (a b : Foot) : Bool := (!a.ro && (!b.ids.isEmpty && a.wr.any b.ids.contains)) || (!b.ro && (!a.ids.isEmpty && b.wr.any a.ids.contains))
theorem x1iq (a b : Foot) : x1ku a b = xau a b := by
 obtain ⟨ia,ra,wa⟩ := a
 obtain ⟨ib,rb,wb⟩ := b
 unfold x1ku xau
 cases ia <;> cases ib <;> simp
def xr6 (ops : List Oper) (cs : List Foot) : Bool :=
 let b := xqv ops []
 (List.range cs.length).all fun j => (List.range j).all fun i => (b.getD j 0).testBit i || !x1ku (cs.getD i {}) (cs.getD j {})
theorem x1ft {src : List Oper} {cs : List Foot} (h : x8x src cs = true) : xr6 src cs = true := by
 unfold xr6
 simp only [x1iq]
 exact h
theorem x1c9 {src : List Oper} {cs : List Foot} {x : Option R} (hc : Shut (xr6 src cs = true)) : (if x8x src cs = true then x else none) = x := if_pos (by
 have := hc.it
 unfold xr6 at this
 simp only [x1iq] at this
 exact this)
theorem x1ne {q : List A → H → Option R} : kOps E call thaw [] s h q = q s h := rfl
theorem x1iv {op : Op} {g : Option (Option Tmp × Bool)} {os : List SO} {q : List A → H → Option R} : kOps E call thaw (⟨dst,op,g⟩ :: os) s h q = xhc g s
  (fun s => kOp E call thaw dst op s h fun a h' => match box (aPut s dst a) with | .no => none | .mk s' => kOps E call thaw os s' h' q)
  (fun s => match box (aPut s dst (.d .undef)) with | .no => none | .mk s' => kOps E call thaw os s' h q) := rfl
theorem x1ie {cs : List Foot} {q : List A → H → List Foot → Option R} : xhh E call thaw [] s h cs q = q s h cs := rfl
theorem x1bz {op : Op} {g : Option (Option Tmp × Bool)} {os : List SO} {cs : List Foot} {q : List A → H → List Foot → Option R} : xhh E call thaw (⟨dst,op,g⟩ :: os) s h cs q = xhc g s
  (fun s => kOpD E call thaw dst op s h fun a h' c => match box (aPut s dst a) with | .no => none | .mk s' => xhh E call thaw os s' h' (cs ++ [c]) q)
  (fun s => match box (aPut s dst (.d .undef)) with | .no => none | .mk s' => xhh E call thaw os s' h (cs ++ [{}]) q) := rfl
section
variable {L nf : Nat} {live : List Bool} {lp : Nat → Code} {q : Exit → List A → H → Option R}
theorem x1d3 : xa E call L nf thaw live lp .skip s h q = q .normal s h := rfl
theorem x1hw {l : List SO} : xa E call L nf thaw live lp (.ops l) s h q = kOps E call thaw l s h fun s h => q .normal s h := rfl
theorem x16r {l : List SO} {src : Array Oper} : xa E call L nf thaw live lp (.drawn l src) s h q = xhh E call thaw l s h [] fun s h cs => if x8x src.toList cs = true then q .normal s h else none := rfl
theorem x1gj {a b : SC} : xa E call L nf thaw live lp (.seq a b) s h q = xa E call L nf thaw live lp a s h fun e s h => match e with
  | .normal => xa E call L nf thaw live lp b s h q
  | e => q e s h := rfl
theorem x1bq {c : Operand} {x y : SC} : xa E call L nf thaw live lp (.cond c x y) s h q = kv s c fun a => match a with
  | .d (.bool b) => if b = true then xa E call L nf thaw live lp x s h q else xa E call L nf thaw live lp y s h q
  | _ => none := rfl
theorem x17w {id : Nat} {c : SC} : xa E call L nf thaw live lp (.block id c) s h q = xa E call L nf thaw live lp c s h fun e s h => match e with
  | .exit i => if i = id then q .normal s h else q (.exit i) s h
  | e => q e s h := rfl
theorem x1d5 {i : Nat} : xa E call L nf thaw live lp (.loop i) s h q = match box (xbn live s) with
  | .no => none
  | .mk m => match box (gc nf m s h) with
   | .mk (s',h') => xc E call L nf thaw live (lp i) m L s' h' q
   | .no => none := rfl
theorem x1bu {id : Nat} : xa E call L nf thaw live lp (.exit id) s h q = q (.exit id) s h := rfl
theorem x1i8 : xa E call L nf thaw live lp .ret s h q = q .ret s h := rfl
theorem x12m {c : Code} {m : List Bool} {n : Nat} : x1d E call L nf thaw live c m n q .normal s h = match box (gc nf m s h) with
  | .mk (s',h') => xc E call L nf thaw live c m n s' h' q
  | .no => none := rfl
theorem x1dc {c : Code} {m : List Bool} {n i : Nat} : x1d E call L nf thaw live c m n q (.exit i) s h = match box (gc nf m s h) with
  | .mk (s',h') => q (.exit i) s' h'
  | .no => none := rfl
theorem x1ic {c : Code} {m : List Bool} {n : Nat} : x1d E call L nf thaw live c m n q .ret s h = match box (gc nf m s h) with
  | .mk (s',h') => q .ret s' h'
  | .no => none := rfl
end
def x4 (E : Env) (call : x1e) (h : H) (f : FuncId) (args : List A) (k : A → H → Option R) : Option R :=
 match x3e call E.hint (pack h (x5 x7 h (idsL args) [])) f (xd (x8 (x5 x7 h (idsL args) [])) args) with
 | some (a,h1) =>
  if (x5 x7 h (idsL args) []).length ≤ h1.length ∧ closed h (x5 x7 h (idsL args) []) (idsL args) = true then
   k (mapA (back (x5 x7 h (idsL args) []) h.length h1.length) a) (xx (back (x5 x7 h (idsL args) []) h.length h1.length) h (x5 x7 h (idsL args) []) h1)
  else none
 | none => none
theorem x1z1 {f : FuncId} {args : List Operand} {tys : Array TypeId} : kOp E call thaw dst (.call ⟨.value (.func f),args.toArray,tys⟩) s h k = kvs s args fun vs => x4 E call h f vs k := by
 unfold kOp kvs x4
 simp only [opds,x1t,x2j]
 cases x1t s args with
 | none => rfl
 | some vs =>
  simp only [x1b,if_true,xag,idsL,idsA,List.nil_append,xd,mapA,evOp,x5s,x7s,x7n,List.append_nil]
  cases x3e call E.hint (pack h (x5 x7 h (idsL vs) [])) f (xd (x8 (x5 x7 h (idsL vs) [])) vs) with
  | none => rfl
  | some r =>
   obtain ⟨a,h1⟩ := r
   by_cases c1 : (x5 x7 h (idsL vs) []).length ≤ h1.length <;> by_cases c2 : closed h (x5 x7 h (idsL vs) []) (idsL vs) = true <;> simp [c1,c2]
theorem x1hg {f : FuncId} {args : List Operand} {tys : Array TypeId} : kOp E call thaw dst (.call ⟨.value (.func f),args.toArray,tys⟩) s h k = kvs s args fun vs => x4 E call h f vs fun a h' => match box h' with | .no => none | .mk h'' => k a h'' := by
 rw [x1z1]
 rfl
def xla (E : Env) (call : x1e) (h : H) (f : FuncId) (caps args : List A) (k : A → H → Option R) : Option R :=
 match x3e call E.hint (pack h (x5 x7 h (idsL caps ++ idsL args) [])) f (xd (x8 (x5 x7 h (idsL caps ++ idsL args) [])) args ++ xd (x8 (x5 x7 h (idsL caps ++ idsL args) [])) caps) with
 | some (a,h1) =>
  if (x5 x7 h (idsL caps ++ idsL args) []).length ≤ h1.length ∧ closed h (x5 x7 h (idsL caps ++ idsL args) []) (idsL caps ++ idsL args) = true then
   k (mapA (back (x5 x7 h (idsL caps ++ idsL args) []) h.length h1.length) a) (xx (back (x5 x7 h (idsL caps ++ idsL args) []) h.length h1.length) h (x5 x7 h (idsL caps ++ idsL args) []) h1)
  else none
 | none => none
def xc1 (E : Env) (call : x1e) (h : H) (g : A) (args : List A) (k : A → H → Option R) : Option R :=
 match g with
 | .d (.fn f caps) => x4 E call h f (args ++ caps.map .d) k
 | .clo f caps => xla E call h f caps args k
 | _ => none
theorem x6t : ∀ (as bs : List A),idsL (as ++ bs) = idsL as ++ idsL bs
 | [],bs => by simp [idsL]
 | a :: as,bs => by simp [idsL,x6t as bs]
theorem x1kw : ∀ (ds : List D),idsL (ds.map .d) = []
 | [] => by simp [idsL]
 | d :: ds => by simp [idsL,idsA,x1kw ds]
theorem xov {f : Nat → Option Nat} : ∀ (as bs : List A),xd f (as ++ bs) = xd f as ++ xd f bs
 | [],bs => by simp [xd]
 | a :: as,bs => by simp [xd,xov as bs]
theorem x1en {f : Nat → Option Nat} : ∀ (ds : List D),xd f (ds.map .d) = ds.map .d
 | [] => by simp [xd]
 | d :: ds => by simp [xd,mapA,x1en ds]
theorem x1ti {g : A} {vs : List A} {tys : Array TypeId} {x : Operand} {args : Array Operand} : (match xag E call thaw h (x7n dst (.call ⟨.value x,args,tys⟩)) (g :: vs) with
   | some (a,h',_) => k a h'
   | none => none) = xc1 E call h g vs k := by
 unfold xag
 simp only [evOp,x5s,x7n,xd]
 cases g with
 | d y =>
  cases y with
  | fn f caps =>
   simp only [xc1,x4,mapA,x7s,idsL,idsA,List.nil_append,x6t,x1kw,List.append_nil,xov,x1en]
   cases x3e call E.hint (pack h (x5 x7 h (idsL vs) [])) f (xd (x8 (x5 x7 h (idsL vs) [])) vs ++ caps.map .d) with
   | none => rfl
   | some r =>
    obtain ⟨a,h1⟩ := r
    by_cases c1 : (x5 x7 h (idsL vs) []).length ≤ h1.length <;> by_cases c2 : closed h (x5 x7 h (idsL vs) []) (idsL vs) = true <;> simp [c1,c2]
  | _ => simp only [xc1,mapA,x7s]
 | clo f caps =>
  simp only [xc1,xla,mapA,x7s,idsL,idsA]
  cases x3e call E.hint (pack h (x5 x7 h (idsL caps ++ idsL vs) [])) f (xd (x8 (x5 x7 h (idsL caps ++ idsL vs) [])) vs ++ xd (x8 (x5 x7 h (idsL caps ++ idsL vs) [])) caps) with
  | none => rfl
  | some r =>
   obtain ⟨a,h1⟩ := r
   by_cases c1 : (x5 x7 h (idsL caps ++ idsL vs) []).length ≤ h1.length <;> by_cases c2 : closed h (x5 x7 h (idsL caps ++ idsL vs) []) (idsL caps ++ idsL vs) = true <;> simp [c1,c2]
 | sl id gen off len =>
  simp only [xc1,mapA]
  cases x8 (x5 x7 h (idsL (A.sl id gen off len :: vs)) []) id <;> rfl
 | ptr id gen off =>
  simp only [xc1,mapA]
  cases x8 (x5 x7 h (idsL (A.ptr id gen off :: vs)) []) id <;> rfl
 | mp id =>
  simp only [xc1,mapA]
  cases x8 (x5 x7 h (idsL (A.mp id :: vs)) []) id <;> rfl
 | agg cs => simp only [xc1,mapA,x7s]
 | tup cs => simp only [xc1,mapA,x7s]
 | junk => simp only [xc1,mapA,x7s]
theorem x1ir {t : Nat} {args : List Operand} {tys : Array TypeId} : kOp E call thaw dst (.call ⟨.value (.tmp t),args.toArray,tys⟩) s h k = match box (s.getD t (.d .undef)) with
  | .no => none
  | .mk g => kvs s args fun vs => xc1 E call h g vs k := by
 unfold kOp kvs
 simp only [opds,x1t,x2j,box]
 cases x1t s args with
 | none => rfl
 | some vs => simp only [x1b,if_true]; exact x1ti
theorem x1gx {f : FuncId} {caps : List D} {vs : List A} : xc1 E call h (.d (.fn f caps)) vs k = match box (vs ++ caps.map .d) with | .no => none | .mk as' => x4 E call h f as' k := rfl
theorem x1al {f : FuncId} {caps vs : List A} : xc1 E call h (.clo f caps) vs k = xla E call h f caps vs k := rfl
theorem x1ds {f : FuncId} {vs : List A} : xla E call h f [] vs k = x4 E call h f vs k := by
 unfold xla x4
 simp only [idsL,List.nil_append,xd,List.append_nil]
 rfl
theorem xm9 {h : H} {ids : List Nat} {h1 : H} {ord : List Nat} : ∀ (ord : List Nat) (h h1 : H) (f : Nat → Option Nat),ord.length ≤ h1.length → (xx f h ord h1).length = h.length + (h1.length - ord.length)
 | [],h,h1,f,_ => by simp [xx]
 | i :: ord,h,[],f,hl => by simp at hl
 | i :: ord,h,o :: h1,f,hl => by
  simp only [xx,xm9 (h := h) (ids := ids) (h1 := h1) (ord := ord) ord _ h1 f (by simpa using hl),List.length_set,List.length_cons]
  omega
def wrC (E : Env) (f : FuncId) (ord : List Nat) : List Nat := if (E.hint f).mode == 3 then [] else ord
def xbi (E : Env) (f : FuncId) (h h' : H) (ord : List Nat) : Option (H × Foot) := if ((E.hint f).mode == 1 && h'.length - h.length == 0) = true then some (h,{ ids := ord,ro := true }) else some (h',{ ids := ord ++ List.range' h.length (h'.length - h.length),ro := false,wr := wrC E f ord ++ List.range' h.length (h'.length - h.length) })
theorem x1rz {f : FuncId} {args : List Operand} {tys : Array TypeId} {q : A → H → Foot → Option R} : kOpD E call thaw dst (.call ⟨.value (.func f),args.toArray,tys⟩) s h q = kvs s args fun vs => match box (x5 x7 h (idsL vs) []) with
  | .no => none
  | .mk ord => x4 E call h f vs fun a h' => if ((E.hint f).mode == 1 && h'.length - h.length == 0) = true then q a h { ids := ord,ro := true } else q a h' { ids := ord ++ List.range' h.length (h'.length - h.length),ro := false,wr := wrC E f ord ++ List.range' h.length (h'.length - h.length) } := by
 unfold kOpD kvs x4
 simp only [opds,x1t,x2j,box]
 cases x1t s args with
 | none => rfl
 | some vs =>
  simp only [x21,xa2,Bool.false_eq_true,if_false,xag,idsL,idsA,List.nil_append,xd,mapA,evOp,x5s,x7s,x7n,List.append_nil,x4h]
  cases x3e call E.hint (pack h (x5 x7 h (idsL vs) [])) f (xd (x8 (x5 x7 h (idsL vs) [])) vs) with
  | none => rfl
  | some r =>
   obtain ⟨a,h1⟩ := r
   by_cases c1 : (x5 x7 h (idsL vs) []).length ≤ h1.length
   ·by_cases c2 : closed h (x5 x7 h (idsL vs) []) (idsL vs) = true
    ·have e := xm9 (h := h) (ids := idsL vs) (h1 := h1) (ord := []) (x5 x7 h (idsL vs) []) h h1 (back (x5 x7 h (idsL vs) []) h.length h1.length) c1
     have e2 : (xx (back (x5 x7 h (idsL vs) []) h.length h1.length) h (x5 x7 h (idsL vs) []) h1).length - h.length = h1.length - (x5 x7 h (idsL vs) []).length := by omega
     simp only [c1,c2,and_self,if_true,e2]
     first | done | rfl | (by_cases c3 : ((E.hint f).mode == 1 && h1.length - (x5 x7 h (idsL vs) []).length == 0) = true <;> simp [c3])
    ·simp only [c2,and_false,if_false,Bool.false_eq_true]
   ·simp only [c1,false_and,if_false]
theorem x151 {f : FuncId} {args : List Operand} {tys : Array TypeId} {q : A → H → Foot → Option R} : kOpD E call thaw dst (.call ⟨.value (.func f),args.toArray,tys⟩) s h q = kvs s args fun vs => match box (x5 x7 h (idsL vs) []) with
  | .no => none
  | .mk ord => x4 E call h f vs fun a h' => match box (xbi E f h h' ord) with | .mk (some (h'',c)) => q a h'' c | _ => none := by
 rw [x1rz]
 congr 1
 funext vs
 simp only [box]
 congr 1
 funext a h'
 unfold xbi
 by_cases hc : ((E.hint f).mode == 1 && h'.length - h.length == 0) = true
 ·simp only [if_pos hc]
 ·simp only [if_neg hc]
theorem x1np {t : Nat} {args : List Operand} {tys : Array TypeId} {q : A → H → Foot → Option R} {f : FuncId} {caps : List D} (hg : Now (s.getD t (.d .undef) = .d (.fn f caps))) : kOpD E call thaw dst (.call ⟨.value (.tmp t),args.toArray,tys⟩) s h q = kvs s args fun vs => match box (x5 x7 h (idsL vs) []) with
  | .no => none
  | .mk ord => x4 E call h f (vs ++ caps.map .d) fun a h' => if ((E.hint f).mode == 1 && h'.length - h.length == 0) = true then q a h { ids := ord,ro := true } else q a h' { ids := ord ++ List.range' h.length (h'.length - h.length),ro := false,wr := wrC E f ord ++ List.range' h.length (h'.length - h.length) } := by
 have hg := hg.it
 unfold kOpD kvs x4
 simp only [opds,x1t,x2j,box,hg]
 cases x1t s args with
 | none => rfl
 | some vs =>
  simp only [x21,xa2,Bool.false_eq_true,if_false,xag,idsL,idsA,List.nil_append,xd,mapA,evOp,x5s,x7s,x7n,List.append_nil,x4h,x6t,x1kw,xov,x1en]
  cases x3e call E.hint (pack h (x5 x7 h (idsL vs) [])) f (xd (x8 (x5 x7 h (idsL vs) [])) vs ++ caps.map .d) with
  | none => rfl
  | some r =>
   obtain ⟨a,h1⟩ := r
   by_cases c1 : (x5 x7 h (idsL vs) []).length ≤ h1.length
   ·by_cases c2 : closed h (x5 x7 h (idsL vs) []) (idsL vs) = true
    ·have e := xm9 (h := h) (ids := idsL vs) (h1 := h1) (ord := []) (x5 x7 h (idsL vs) []) h h1 (back (x5 x7 h (idsL vs) []) h.length h1.length) c1
     have e2 : (xx (back (x5 x7 h (idsL vs) []) h.length h1.length) h (x5 x7 h (idsL vs) []) h1).length - h.length = h1.length - (x5 x7 h (idsL vs) []).length := by omega
     simp only [c1,c2,and_self,if_true,e2]
     first | done | rfl | (by_cases c3 : ((E.hint f).mode == 1 && h1.length - (x5 x7 h (idsL vs) []).length == 0) = true <;> simp [c3])
    ·simp only [c2,and_false,if_false,Bool.false_eq_true]
   ·simp only [c1,false_and,if_false]
def x24w (E : Env) (call : x1e) (thaw : List Nat) (dst : Option Tmp) (op : Op) (s : List A) (h : H) (q : A → H → Foot → Option R) : Option R := kOpD E call thaw dst op s h q
theorem x1dm {t : Nat} {args : List Operand} {tys : Array TypeId} {q : A → H → Foot → Option R} : kOpD E call thaw dst (.call ⟨.value (.tmp t),args.toArray,tys⟩) s h q = match box (s.getD t (.d .undef)) with
  | .mk (.d (.fn f caps)) => kvs s args fun vs => match box (x5 x7 h (idsL vs) []) with
   | .no => none
   | .mk ord => match box (vs ++ caps.map .d) with | .no => none | .mk as' => x4 E call h f as' fun a h' => match box (xbi E f h h' ord) with | .mk (some (h'',c)) => q a h'' c | _ => none
  | .mk (.clo f []) => kvs s args fun vs => match box (x5 x7 h (idsL vs) []) with
   | .no => none
   | .mk ord => x4 E call h f vs fun a h' => match box (xbi E f h h' ord) with | .mk (some (h'',c)) => q a h'' c | _ => none
  | _ => x24w E call thaw dst (.call ⟨.value (.tmp t),args.toArray,tys⟩) s h q := by
 have key := fun (f : FuncId) (caps : List D) hg => x1np (E := E) (call := call) (thaw := thaw) (dst := dst) (s := s) (h := h) (t := t) (args := args) (tys := tys) (q := q) (f := f) (caps := caps) hg
 have k2 : ∀ f,s.getD t (.d .undef) = .clo f [] → kOpD E call thaw dst (.call ⟨.value (.tmp t),args.toArray,tys⟩) s h q = kOpD E call thaw dst (.call ⟨.value (.func f),args.toArray,tys⟩) s h q := by
  intro f hg
  unfold kOpD kvs
  simp only [opds,x1t,x2j,hg]
  cases x1t s args <;> rfl
 have fold : ∀ (f : FuncId) (h h' : H) (ord : List Nat) (a : A),(if ((E.hint f).mode == 1 && h'.length - h.length == 0) = true then q a h { ids := ord,ro := true } else q a h' { ids := ord ++ List.range' h.length (h'.length - h.length),ro := false,wr := wrC E f ord ++ List.range' h.length (h'.length - h.length) }) = match box (xbi E f h h' ord) with | .mk (some (h'',c)) => q a h'' c | _ => none := by
  intro f h h' ord a
  unfold xbi
  by_cases hc : ((E.hint f).mode == 1 && h'.length - h.length == 0) = true
  ·simp only [if_pos hc,box]
  ·simp only [if_neg hc,box]
 generalize hs : s.getD t (.d .undef) = a
 cases a with
 | d x =>
  cases x with
  | fn f caps =>
   rw [key f caps ⟨hs⟩]
   simp only [fold]
   rfl
  | _ => rfl
 | clo f caps =>
  cases caps with
  | nil => rw [k2 f hs]; exact x151
  | cons c caps => rfl
 | _ => rfl
theorem x1cr (n : Nat) (h : H) : x5 n h [] [] = [] := by cases n <;> rfl
mutual
theorem xiq {f : Nat → Option Nat} : ∀ a : A,idsA a = [] → mapA f a = a
 | .d x,_ => by simp only [mapA]
 | .sl id gen off len,h => by simp [idsA] at h
 | .ptr id gen off,h => by simp [idsA] at h
 | .mp id,h => by simp [idsA] at h
 | .clo g caps,h => by simp only [idsA] at h; simp only [mapA]; rw [xfj caps h]
 | .agg cs,h => by simp only [idsA] at h; simp only [mapA]; rw [xfj cs h]
 | .tup cs,h => by simp only [idsA] at h; simp only [mapA]; rw [xfj cs h]
 | .junk,_ => by simp only [mapA]
theorem xfj {f : Nat → Option Nat} : ∀ as : List A,idsL as = [] → xd f as = as
 | [],_ => by simp only [xd]
 | a :: as,h => by
  simp only [idsL,List.append_eq_nil_iff] at h
  simp only [xd]
  rw [xiq a h.1,xfj as h.2]
end
theorem x1vb {a : A} (h : xng a = true) : idsA a = [] := by
 cases a with
 | d x => rfl
 | agg cs =>
  simp only [xng] at h
  simp only [idsA]
  induction cs with
  | nil => rfl
  | cons c cs ih =>
   simp only [List.all_cons,Bool.and_eq_true] at h
   simp only [idsL,ih h.2,List.append_nil]
   cases c <;> first | rfl | simp [isD] at h
 | _ => simp [xng] at h
theorem xkq : ∀ {as : List A},as.all xng = true → idsL as = []
 | [],_ => rfl
 | a :: as,h => by
  simp only [List.all_cons,Bool.and_eq_true] at h
  simp only [idsL,x1vb h.1,xkq h.2,List.append_nil]
theorem x1c7 {h : H} : ∀ {cs : List A},cs.all isD = true → ∃ ds,frzL h cs = some (ds,h) ∧ ds.map .d = cs
 | [],_ => ⟨[],rfl,rfl⟩
 | c :: cs,hs => by
  simp only [List.all_cons,Bool.and_eq_true] at hs
  obtain ⟨ds,h1,h2⟩ := x1c7 (h := h) hs.2
  cases c with
  | d x =>
   refine ⟨x :: ds,?_,by simp [h2]⟩
   unfold frzL at h1 ⊢
   simp only [x57]
   have : frz deep h (.d x) = some (x,h) := rfl
   rw [this]
   simp only [h1]
  | _ => simp [isD] at hs
theorem xgx {h : H} : ∀ {as : List A},as.all xng = true → x74 h as = some (as,h)
 | [],_ => rfl
 | a :: as,hs => by
  simp only [List.all_cons,Bool.and_eq_true] at hs
  have ha : frzA h a = some (a,h) := by
   cases a with
   | d x => rfl
   | agg cs =>
    obtain ⟨ds,h1,h2⟩ := x1c7 (h := h) (cs := cs) (by simpa only [xng] using hs.1)
    simp only [frzA,h1,h2]
   | _ => simp [xng] at hs
  simp only [x74,ha,xgx hs.2]
theorem x1os {r : A} (h : x95 r = true) : xcb r = true ∧ mapA (fun k => back [] 0 0 k) r = r := by
 cases r with
 | d x => cases x <;> first | exact ⟨rfl,rfl⟩ | simp [x95] at h
 | tup vs =>
  simp only [x95] at h
  have key : x9x vs = true ∧ xd (fun k => back [] 0 0 k) vs = vs := by
   induction vs with
   | nil => exact ⟨rfl,by simp only [xd]⟩
   | cons v vs ih =>
    simp only [List.all_cons,Bool.and_eq_true] at h
    obtain ⟨i1,i2⟩ := ih h.2
    cases v with
    | d x => cases x <;> first | (exfalso; simp at h; done) | (refine ⟨by simp only [x9x,xcb,xes,i1,Bool.and_self],by simp only [xd,mapA,i2]⟩)
    | _ => simp at h
  exact ⟨by simp only [xcb]; exact key.1,by simp only [mapA,key.2]⟩
 | _ => simp [x95] at h
theorem x1ny {f : FuncId} {args : List A} {r : A} (hs : args.all xng = true) (hc : call f args [] = some (r,[])) (hp : x95 r = true ∨ ((E.hint f).mode == 1 || (E.hint f).mode == 3) = false) : x3e call E.hint [] f args = some (r,[]) := by
 unfold x3e
 split
 ·exact hc
 ·rename_i hm
  rw [xgx hs]
  simp only [hc]
  rcases hp with hp | hp
  ·rw [hp]; rfl
  ·rw [hm] at hp; cases hp
 ·rename_i hm
  rw [xgx hs]
  simp only [hc]
  rcases hp with hp | hp
  ·obtain ⟨h1,h2⟩ := x1os hp
   rw [h1]
   simp only [List.all_nil,Bool.and_self,if_true,List.length_nil,List.map_nil,List.append_nil]
   exact congrArg (fun x => some (x,([] : H))) h2
  ·rw [hm] at hp; cases hp
 ·rw [xgx hs]
  simp only [hc]
theorem xh {f : FuncId} {args : List A} {r : A} (hs : args.all xng = true) (hc : call f args [] = some (r,[])) (hr : idsA r = []) (hp : x95 r = true ∨ ((E.hint f).mode == 1 || (E.hint f).mode == 3) = false) : x4 E call h f args k = k r h := by
 unfold x4
 rw [xkq hs,x1cr,xfj _ (xkq hs)]
 have : pack h [] = [] := rfl
 rw [this,x1ny hs hc hp]
 simp only [List.length_nil,Nat.le_refl,true_and,closed,List.all_nil,Bool.and_self,if_true,xiq r hr,xx,List.map_nil,List.append_nil]
def xk (call : x1e) (f : FuncId) (args : List A) (k : A → Option R) : Option R :=
 match call f args [] with
 | some (r,[]) => if x95 r = true then k r else none
 | _ => none
theorem x2c {f : FuncId} {args : List A} {r : A} {k : A → Option R} (hc : call f args [] = some (r,[])) (hp : x95 r = true) : xk call f args k = k r := by
 unfold xk
 rw [hc]
 simp only [hp,if_true]
theorem x1w9 {r : A} (h : x95 r = true) : idsA r = [] := by
 cases r with
 | d x => rfl
 | tup vs =>
  simp only [x95] at h
  simp only [idsA]
  induction vs with
  | nil => rfl
  | cons v vs ih =>
   simp only [List.all_cons,Bool.and_eq_true] at h
   simp only [idsL,ih h.2,List.append_nil]
   cases v with
   | d x => rfl
   | _ => simp at h
 | _ => simp [x95] at h
theorem x1vs (ord : List Nat) (n : Nat) : back ord n ord.length = fun k => ord[k]? := by
 funext k
 unfold back
 split
 ·rfl
 ·rename_i h
  rw [List.getElem?_eq_none (by omega)]
theorem x150 {h : H} {ord ids : List Nat} (hc : closed h ord ids = true) (hn : ord.Nodup) (hl : ∀ i ∈ ord,i < h.length) : xx (fun (k : Nat) => ord[k]?) h ord (pack h ord) = h := by
 apply List.ext_getElem?
 intro id
 rw [xb9 _ ord h _ id hn hl (by simp [pack])]
 cases hp : x8 ord id with
 | none =>
  simp only []
  split
  ·rfl
  ·rename_i hge
   rw [List.getElem?_eq_none (by simp [pack]),List.getElem?_eq_none (by omega)]
   rfl
 | some k =>
  simp only []
  have hm := x13n hp
  obtain ⟨o,ho⟩ : ∃ o,h[id]? = some o := ⟨h[id]'(hl id hm),List.getElem?_eq_getElem _⟩
  rw [xcc (x22 hp) ho,ho,Option.map_some,x1j0 hc hm ho]
theorem x1ok {f : FuncId} {args : List A} (hm : (E.hint f).mode = 1) : x4 E call h f args k = match box (x5 x7 h (idsL args) []) with
  | .no => none
  | .mk ord => match box (x74 (pack h ord) (xd (x8 ord) args)) with
   | .mk (some (fs,_)) => if closed h ord (idsL args) = true then xk call f fs fun r => k r h else none
   | _ => none := by
 unfold x4 x3e
 rw [hm]
 simp only [box]
 cases hf : x74 (pack h (x5 x7 h (idsL args) [])) (xd (x8 (x5 x7 h (idsL args) [])) args) with
 | none => rfl
 | some r =>
  obtain ⟨fs,h1⟩ := r
  simp only [xk]
  cases hc : call f fs [] with
  | none => simp
  | some r =>
   obtain ⟨a,h2⟩ := r
   cases h2 with
   | cons o h2 => simp
   | nil =>
    simp only []
    by_cases hp : x95 a = true
    ·simp only [hp,if_true]
     have hlen : (pack h (x5 x7 h (idsL args) [])).length = (x5 x7 h (idsL args) []).length := by simp [pack]
     simp only [hlen,Nat.le_refl,true_and]
     by_cases hcl : closed h (x5 x7 h (idsL args) []) (idsL args) = true
     ·simp only [hcl,if_true,x1vs,xiq a (x1w9 hp)]
      rw [x150 hcl (x3i x7 h (idsL args) [] (by simp)) (x6d x7 h (idsL args) [] (by simp))]
     ·simp only [hcl,Bool.false_eq_true,if_false]
    ·simp only [hp,Bool.false_eq_true,if_false]
     simp
def xw (h : H) (args : List A) : Option (List A) := match box (x5 x7 h (idsL args) []) with
 | .no => none
 | .mk ord => match box (x74 (pack h ord) (xd (x8 ord) args)) with
  | .mk (some (fs,_)) => if closed h ord (idsL args) = true then some fs else none
  | _ => none
theorem x9 {f : FuncId} {args : List A} (hm : (E.hint f).mode = 1) : x4 E call h f args k = match box (xw h args) with
  | .mk (some fs) => xk call f fs fun r => k r h
  | _ => none := by
 rw [x1ok hm]
 unfold xw
 simp only [box]
 cases x74 (pack h (x5 x7 h (idsL args) [])) (xd (x8 (x5 x7 h (idsL args) [])) args) with
 | none => rfl
 | some r =>
  obtain ⟨fs,h1⟩ := r
  simp only []
  by_cases hc : closed h (x5 x7 h (idsL args) []) (idsL args) = true
  ·simp only [if_pos hc]
  ·simp only [if_neg hc]
theorem x1q4 {nf : Nat} {h : H} {ord : List Nat} {s : List A} : trim nf h ord s = match box (pack h ord) with
  | .mk p => (x29 nf p (xd (x8 ord) s),x8a nf p)
  | .no => ([],[]) := rfl
theorem x22t {nf : Nat} {m : List Bool} {s : List A} {h : H} : gc nf m s h = match box (tidy m s) with
  | .mk s1 => match box (x37 nf h (idsL s1)) with
   | .mk ord => trim nf h ord s1
   | .no => ([],[])
  | .no => ([],[]) := rfl
theorem x1p8 {P : Program} {nf : Nat} {exp : Bool} {rs : List ResultVar} {e : Exit} {s : List A} {h : H} : kFin P nf exp rs e s h =
  if x62 e then (match xaf P s h rs with
   | some rs => match xkk nf exp h rs with
    | some (xs,h2) => match box (x37 nf h2 (idsL xs)) with
     | .mk ord => match box (trim nf h2 ord xs) with
      | .mk r => some (tupA r.1,r.2)
      | .no => none
     | .no => none
    | none => none
   | none => none) else none := rfl
theorem x1e0 (nf : Nat) (h : H) (ids : List Nat) : x37 nf h ids = x5 1099511627776 h (x65 (h.take nf) ++ ids) (List.range nf) := rfl
theorem rng0 : List.range 0 = [] := rfl
theorem rng1 : List.range 1 = [0] := rfl
theorem rng2 : List.range 2 = [0,1] := rfl
theorem rng3 : List.range 3 = [0,1,2] := rfl
theorem xeq (h : H) (ids : List Nat) : x37 0 h ids = x5 1099511627776 h ids [] := by
 unfold x37
 simp only [List.take_zero,x65,List.nil_append,List.range_zero]
 rfl
theorem x1im (n : Nat) (h : H) (acc : List Nat) : x5 n h [] acc = acc := by cases n <;> rfl
theorem x1dd (n : Nat) (h : H) (i : Nat) (todo acc : List Nat) : x5 (n + 1) h (i :: todo) acc = if acc.contains i = true then x5 n h todo acc
  else match h.getD i .void with
   | .box cs => x5 n h (todo ++ idsL cs) (acc ++ [i])
   | .vec cs _ _ => x5 n h (todo ++ idsL cs) (acc ++ [i])
   | .void => x5 n h todo acc
   | _ => x5 n h todo (acc ++ [i]) := by
 simp only [x5,List.getD_eq_getElem?_getD]
 split
 ·rfl
 ·cases h[i]? with
  | none => rfl
  | some o => cases o <;> rfl
theorem x1lh {α : Type} {c : Prop} [Decidable c] {a : α} (hc : c) : (if c then some a else none) = some a := if_pos hc
def iAnd (k : IntKind) (a b : Int) : Int := k.wrap (BitVec.ofInt k.bits a &&& BitVec.ofInt k.bits b).toNat
def iOr (k : IntKind) (a b : Int) : Int := k.wrap (BitVec.ofInt k.bits a ||| BitVec.ofInt k.bits b).toNat
def iXor (k : IntKind) (a b : Int) : Int := k.wrap (BitVec.ofInt k.bits a ^^^ BitVec.ofInt k.bits b).toNat
def x23o (k : IntKind) (a b : Int) : Int := k.wrap (BitVec.ofInt k.bits a &&& ~~~BitVec.ofInt k.bits b).toNat
section
variable {t : TypeId} {K : IntKind} {a b : Int}
theorem x1is : x24 E .add t h (.d (.int K a)) (.d (.int K b)) = some (.d (.int K (K.wrap (a + b))),h) := by simp [x24,aBin]; rfl
theorem x1i2 : x24 E .sub t h (.d (.int K a)) (.d (.int K b)) = some (.d (.int K (K.wrap (a - b))),h) := by simp [x24,aBin]; rfl
theorem x1i0 : x24 E .mul t h (.d (.int K a)) (.d (.int K b)) = some (.d (.int K (K.wrap (a * b))),h) := by simp [x24,aBin]; rfl
theorem x1i3 : x24 E .and t h (.d (.int K a)) (.d (.int K b)) = some (.d (.int K (iAnd K a b)),h) := by simp [x24,aBin]; rfl
theorem x1mp : x24 E .or t h (.d (.int K a)) (.d (.int K b)) = some (.d (.int K (iOr K a b)),h) := by simp [x24,aBin]; rfl
theorem x1il : x24 E .xor t h (.d (.int K a)) (.d (.int K b)) = some (.d (.int K (iXor K a b)),h) := by simp [x24,aBin]; rfl
theorem x125 : x24 E .andNot t h (.d (.int K a)) (.d (.int K b)) = some (.d (.int K (x23o K a b)),h) := by simp [x24,aBin]; rfl
theorem x1ht : x24 E .lss t h (.d (.int K a)) (.d (.int K b)) = some (.d (.bool (decide (a < b))),h) := by simp [x24,aBin]
theorem x1gq : x24 E .leq t h (.d (.int K a)) (.d (.int K b)) = some (.d (.bool (decide (a ≤ b))),h) := by simp [x24,aBin]
theorem x1ip : x24 E .gtr t h (.d (.int K a)) (.d (.int K b)) = some (.d (.bool (decide (b < a))),h) := by simp [x24,aBin]
theorem x1gb : x24 E .geq t h (.d (.int K a)) (.d (.int K b)) = some (.d (.bool (decide (b ≤ a))),h) := by simp [x24,aBin]
theorem x1j4 : x24 E .eql t h (.d (.int K a)) (.d (.int K b)) = some (.d (.bool (decide (a = b))),h) := by simp [x24,aBin]; rfl
theorem x1if : x24 E .neq t h (.d (.int K a)) (.d (.int K b)) = some (.d (.bool (!decide (a = b))),h) := by simp [x24,aBin]; rfl
theorem x1i9 (hb : b ≠ 0) : x24 E .quo t h (.d (.int K a)) (.d (.int K b)) = some (.d (.int K (K.wrap (a.tdiv b))),h) := by simp [x24,aBin,hb]
theorem x1ib (hb : b ≠ 0) : x24 E .rem t h (.d (.int K a)) (.d (.int K b)) = some (.d (.int K (a.tmod b)),h) := by simp [x24,aBin,hb]
theorem x1ii {K2 : IntKind} (hb : 0 ≤ b) : x24 E .shl t h (.d (.int K a)) (.d (.int K2 b)) = some (.d (.int K (K.wrap (a * 2 ^ (min b.toNat K.bits)))),h) := by
 have : ¬ b < 0 := by omega
 simp [x24,aBin,Op.shift,this]; rfl
theorem x1gh {K2 : IntKind} (hb : 0 ≤ b) : x24 E .shr t h (.d (.int K a)) (.d (.int K2 b)) = some (.d (.int K (a.fdiv (2 ^ (min b.toNat K.bits)))),h) := by
 have : ¬ b < 0 := by omega
 simp [x24,aBin,Op.shift,this]; rfl
theorem x1pl {b : Bool} : aUn .not (.d (.bool b)) = some (.d (.bool (!b))) := rfl
end
end
theorem WD : type_of% (AI @x1d3 (AI @x1hw (AI @x16r (AI @x1gj (AI @x1bq (AI @x17w (AI @x1d5 (AI @x1bu (AI @x1i8 (AI @x1ne (AI @x1iv (AI @x1ie (AI @x1bz (AI @x17i (AI @x182 (AI @x1su (AI @x1tu (AI @x1pd (AI @x1up (AI @x1qf (AI @x1qi (AI @x1pt (AI @x1sx (AI @x1pe (AI @x1nm (AI @x1mn (AI @xxf (AI @xro (AI @xvf (AI @x1p7 (AI @x1vm (AI @x1lu (AI @x146 (AI @x1ng (AI @x1kt (AI @x1g1 (AI @x1gd (AI @x1qc (AI @x1it (AI @xwv (AI @x12n (AI @x10l (AI @x170 (AI @x16v (AI @x16e (AI @x171 (AI @x10q (AI @x1gf (AI @x114 (AI @x1fx (AI @x17r (AI @x181 (AI @x1hg (AI @x1p8 (AI @x12m (AI @x1dc (AI @x1ic (AI @x16y (AI @x1c5 @x10u))))))))))))))))))))))))))))))))))))))))))))))))))))))))))) :=
 ⟨@x1d3,@x1hw,@x16r,@x1gj,@x1bq,@x17w,@x1d5,@x1bu,@x1i8,@x1ne,@x1iv,@x1ie,@x1bz,@x17i,@x182,@x1su,@x1tu,@x1pd,@x1up,@x1qf,@x1qi,@x1pt,@x1sx,@x1pe,@x1nm,@x1mn,@xxf,@xro,@xvf,@x1p7,@x1vm,@x1lu,@x146,@x1ng,@x1kt,@x1g1,@x1gd,@x1qc,@x1it,@xwv,@x12n,@x10l,@x170,@x16v,@x16e,@x171,@x10q,@x1gf,@x114,@x1fx,@x17r,@x181,@x1hg,@x1p8,@x12m,@x1dc,@x1ic,@x16y,@x1c5,@x10u⟩
theorem WDD : type_of% (AI @x1g7 (AI @x1cj (AI @x185 (AI @x1do (AI @x1md (AI @xvq (AI @x1hq (AI @xxp (AI @x1c0 (AI @xwm (AI @x16l (AI @x1kp (AI @x1h8 (AI @x1h4 (AI @x10m (AI @x1k9 (AI @x1py (AI @x11y (AI @xwo (AI @x1e1 (AI @x1b8 (AI @x12j (AI @x1b1 (AI @x151 (AI @x1ir (AI @x1gx (AI @x1al (AI @x1ds (AI @x188 (AI @x12l @xy8)))))))))))))))))))))))))))))) :=
 ⟨@x1g7,@x1cj,@x185,@x1do,@x1md,@xvq,@x1hq,@xxp,@x1c0,@xwm,@x16l,@x1kp,@x1h8,@x1h4,@x10m,@x1k9,@x1py,@x11y,@xwo,@x1e1,@x1b8,@x12j,@x1b1,@x151,@x1ir,@x1gx,@x1al,@x1ds,@x188,@x12l,@xy8⟩
theorem WK0 : type_of% (AI @x1un (AI @x1pl (AI @x1is (AI @x1i2 (AI @x1i0 (AI @x1i3 (AI @x1mp (AI @x1il (AI @x125 (AI @x1i9 (AI @x1ib (AI @x1ii (AI @x1gh (AI @x1ht (AI @x1gq (AI @x1ip (AI @x1gb (AI @x1j4 (AI @x1if (AI @ne_eq.{0} (AI @not_true_eq_false (AI @if_false.{0} (AI @if_true.{0} (AI @List.getD_nil.{0} (AI @List.getD_cons_zero.{0} (AI @List.getD_cons_succ.{0} (AI @List.set_cons_zero.{0} (AI @List.set_cons_succ.{0} (AI @x22t @x1q4))))))))))))))))))))))))))))) :=
 ⟨@x1un,@x1pl,@x1is,@x1i2,@x1i0,@x1i3,@x1mp,@x1il,@x125,@x1i9,@x1ib,@x1ii,@x1gh,@x1ht,@x1gq,@x1ip,@x1gb,@x1j4,@x1if,@ne_eq.{0},@not_true_eq_false,@if_false.{0},@if_true.{0},@List.getD_nil.{0},@List.getD_cons_zero.{0},@List.getD_cons_succ.{0},@List.set_cons_zero.{0},@List.set_cons_succ.{0},@x22t,@x1q4⟩
theorem WK1 : type_of% (AI @Bool.not_true (AI @Bool.not_false (AI @Bool.true_eq_false (AI @Bool.false_eq_true (AI @decide_eq_true_eq (AI @decide_eq_false_iff_not (AI @Option.map_some.{0,0} (AI @Option.bind_some.{0,0} (AI @List.append_nil.{0} (AI @List.nil_append.{0} (AI @List.map_nil.{0,0} (AI @decide_true (AI @decide_false (AI @Bool.not_eq_false' (AI @Bool.not_eq_true' (AI @x1lh (AI @Nat.mul_one (AI @Nat.one_mul (AI @Nat.zero_add (AI @Nat.add_zero (AI @List.getElem?_cons_zero.{0} (AI @List.getElem?_cons_succ.{0} (AI @List.length_cons.{0} (AI @List.length_nil.{0} (AI @List.drop_zero.{0} (AI @List.all_cons.{0} (AI @List.all_nil.{0} (AI @Bool.and_self (AI @Bool.and_true @Bool.true_and))))))))))))))))))))))))))))) :=
 ⟨@Bool.not_true,@Bool.not_false,@Bool.true_eq_false,@Bool.false_eq_true,@decide_eq_true_eq,@decide_eq_false_iff_not,@Option.map_some.{0,0},@Option.bind_some.{0,0},@List.append_nil.{0},@List.nil_append.{0},@List.map_nil.{0,0},@decide_true,@decide_false,@Bool.not_eq_false',@Bool.not_eq_true',@x1lh,@Nat.mul_one,@Nat.one_mul,@Nat.zero_add,@Nat.add_zero,@List.getElem?_cons_zero.{0},@List.getElem?_cons_succ.{0},@List.length_cons.{0},@List.length_nil.{0},@List.drop_zero.{0},@List.all_cons.{0},@List.all_nil.{0},@Bool.and_self,@Bool.and_true,@Bool.true_and⟩
theorem WK2 : type_of% (AI @Bool.false_and (AI @Bool.and_false (AI @List.map_cons.{0,0} (AI @List.zip_cons_cons.{0,0} (AI @List.zip_nil_left.{0,0} (AI @List.flatten_cons.{0} (AI @List.flatten_nil.{0} (AI @List.take_zero.{0} (AI @List.take_nil.{0} (AI @List.drop_nil.{0} (AI @List.cons_append.{0} (AI @Bool.or_self (AI @Bool.or_false (AI @Bool.false_or (AI @Nat.not_lt_zero (AI @and_self (AI @and_true (AI @true_and (AI @Bool.or_true (AI @Bool.true_or (AI @Option.map_none.{0,0} (AI @List.drop_succ_cons.{0} (AI @List.take_succ_cons.{0} (AI @Nat.lt_irrefl (AI @List.head?_cons.{0} (AI @Option.any_some.{0} (AI @List.contains_cons.{0} (AI @List.contains_nil.{0} (AI @xeq @x1e0))))))))))))))))))))))))))))) :=
 ⟨@Bool.false_and,@Bool.and_false,@List.map_cons.{0,0},@List.zip_cons_cons.{0,0},@List.zip_nil_left.{0,0},@List.flatten_cons.{0},@List.flatten_nil.{0},@List.take_zero.{0},@List.take_nil.{0},@List.drop_nil.{0},@List.cons_append.{0},@Bool.or_self,@Bool.or_false,@Bool.false_or,@Nat.not_lt_zero,@and_self,@and_true,@true_and,@Bool.or_true,@Bool.true_or,@Option.map_none.{0,0},@List.drop_succ_cons.{0},@List.take_succ_cons.{0},@Nat.lt_irrefl,@List.head?_cons.{0},@Option.any_some.{0},@List.contains_cons.{0},@List.contains_nil.{0},@xeq,@x1e0⟩
theorem WK3 : type_of% (AI @rng0 (AI @rng1 (AI @rng2 (AI @rng3 (AI @Option.getD_none.{0} (AI @Option.isNone_none.{0} (AI @Option.isNone_some.{0} (AI @Option.isSome_none.{0} (AI @Option.isSome_some.{0} (AI @x1im (AI @x1dd (AI @beq_self_eq_true.{0} (AI @Nat.succ_ne_self (AI @Nat.zero_ne_one (AI @Nat.one_ne_zero (AI @List.length_append.{0} (AI @false_or (AI @or_false (AI @or_true (AI @true_or (AI @List.take_length.{0} (AI @Option.toList_none.{0} @Option.toList_some.{0})))))))))))))))))))))) :=
 ⟨@rng0,@rng1,@rng2,@rng3,@Option.getD_none.{0},@Option.isNone_none.{0},@Option.isNone_some.{0},@Option.isSome_none.{0},@Option.isSome_some.{0},@x1im,@x1dd,@beq_self_eq_true.{0},@Nat.succ_ne_self,@Nat.zero_ne_one,@Nat.one_ne_zero,@List.length_append.{0},@false_or,@or_false,@or_true,@true_or,@List.take_length.{0},@Option.toList_none.{0},@Option.toList_some.{0}⟩
theorem WK : type_of% (AI @WK0 (AI @WK1 (AI @WK2 @WK3))) :=
 ⟨@WK0,@WK1,@WK2,@WK3⟩
section
variable {E : Env} {vs : List A} {t u : TypeId} {x y : Operand}
theorem x16f : x4h E (.load t x) vs = true := rfl
theorem x124 {a b c : Option Operand} : x4h E (.slice t x a b c) vs = true := rfl
theorem x1hc : x4h E (.indexAddr t x y) vs = true := rfl
theorem x16j : x4h E (.convert t u x) vs = (x13 E.P u).isNone := rfl
theorem x10p {a : Array Operand} {b : Array TypeId} : x4h E (.call ⟨.builtin .append,a,b⟩) vs = false := rfl
theorem x1ay {a : Array Operand} {b : Array TypeId} : x4h E (.call ⟨.builtin .len,a,b⟩) vs = true := rfl
theorem x1d6 {a : Array Operand} {b : Array TypeId} {f : FuncId} {c : List A} : x4h E (.call ⟨.value x,a,b⟩) (.clo f c :: vs) = ((E.hint f).mode == 1) := rfl
theorem x1ix {a : Array Operand} {b : Array TypeId} {f : FuncId} {c : List D} : x4h E (.call ⟨.value x,a,b⟩) (.d (.fn f c) :: vs) = ((E.hint f).mode == 1) := rfl
theorem x1cb : x4h E (.box t x) vs = false := rfl
theorem x13q : x4h E (.alloc t) vs = false := rfl
theorem x11e : x4h E (.assign x) vs = false := rfl
theorem x14u : x4h E (.store t x y) vs = false := rfl
theorem x1gp {n : Nat} {ps : Array (Nat × Operand)} : x4h E (.buildSlice t n ps) vs = false := rfl
theorem x1h1 : x4h E (.makeSlice t x y) vs = false := rfl
theorem x1h9 : x4h E (.makeMap t none) vs = false := rfl
theorem x1gv {z : Operand} : x4h E (.mapUpdate t x y z) vs = false := rfl
theorem x1q1 {b : Bool} : x21 (.lookup t x y b) = false := rfl
theorem x1q2 : x21 (.makeMap t none) = false := rfl
theorem x1q3 {z : Operand} : x21 (.mapUpdate t x y z) = false := rfl
theorem x1dh : opds (.alloc t) = [] := rfl
theorem x1hn : x21 (.load t x) = false := rfl
theorem x1cg : x21 (.store t x y) = false := rfl
theorem x17z : x21 (.assign x) = false := rfl
theorem x1de : x21 (.alloc t) = false := rfl
theorem x1kf : x21 (.box t x) = false := rfl
theorem x1ph {n : Nat} {ps : Array (Nat × Operand)} : x21 (.buildSlice t n ps) = false := rfl
theorem x1hf : x21 (.convert t u x) = false := rfl
theorem x1q5 : x21 (.makeSlice t x y) = false := rfl
theorem x1ba {a b c : Option Operand} : x21 (.slice t x a b c) = false := rfl
theorem x1p9 : x21 (.indexAddr t x y) = false := rfl
theorem x1hv {c : Call} : x21 (.call c) = false := rfl
end
theorem UNx1 : type_of% (fun v0 => @x62.eq_3 (Go.Exit.exit v0) (by nofun) (by nofun)) := by intros; rfl
theorem UNx2 : type_of% (fun v0 => @x62.eq_3 (Go.Exit.goto v0) (by nofun) (by nofun)) := by intros; rfl
theorem UNx3 : type_of% (fun v0 => @x62.eq_3 (Go.Exit.panic v0) (by nofun) (by nofun)) := by intros; rfl
theorem UNx4 : type_of% (@x62.eq_3 Go.Exit.outgrown (by nofun) (by nofun)) := (@x62.eq_3 Go.Exit.outgrown (by nofun) (by nofun))
theorem UNx5 : type_of% (fun v0 v1 v2 v3 => @outA.eq_2 v0 v1 v2 (A.d v3) (by nofun)) := by intros; rfl
theorem UNx6 : type_of% (fun v0 v1 v2 v3 v4 v5 v6 => @outA.eq_2 v0 v1 v2 (A.sl v3 v4 v5 v6) (by nofun)) := by intros; rfl
theorem UNx7 : type_of% (fun v0 v1 v2 v3 v4 v5 => @outA.eq_2 v0 v1 v2 (A.ptr v3 v4 v5) (by nofun)) := by intros; rfl
theorem UNx8 : type_of% (fun v0 v1 v2 v3 => @outA.eq_2 v0 v1 v2 (A.mp v3) (by nofun)) := by intros; rfl
theorem UNx9 : type_of% (fun v0 v1 v2 v3 v4 => @outA.eq_2 v0 v1 v2 (A.clo v3 v4) (by nofun)) := by intros; rfl
theorem x207 : type_of% (fun v0 v1 v2 v3 => @outA.eq_2 v0 v1 v2 (A.tup v3) (by nofun)) := by intros; rfl
theorem x21o : type_of% (fun v0 v1 v2 => @outA.eq_2 v0 v1 v2 A.junk (by nofun)) := by intros; rfl
theorem x216 : type_of% (fun v0 v1 v2 => @outS.eq_2 v0 v1 v2 D.undef (by nofun)) := by intros; rfl
theorem x22c : type_of% (fun v0 v1 v2 v3 v4 => @outS.eq_2 v0 v1 v2 (D.int v3 v4) (by nofun)) := by intros; rfl
theorem x20s : type_of% (fun v0 v1 v2 v3 => @outS.eq_2 v0 v1 v2 (D.bool v3) (by nofun)) := by intros; rfl
theorem x22d : type_of% (fun v0 v1 v2 v3 => @outS.eq_2 v0 v1 v2 (D.str v3) (by nofun)) := by intros; rfl
theorem x20u : type_of% (fun v0 v1 v2 v3 v4 => @outS.eq_2 v0 v1 v2 (D.ivs v3 v4) (by nofun)) := by intros; rfl
theorem x222 : type_of% (fun v0 v1 v2 v3 => @outS.eq_2 v0 v1 v2 (D.iptr v3) (by nofun)) := by intros; rfl
theorem x208 : type_of% (fun v0 v1 v2 => @outS.eq_2 v0 v1 v2 D.nilp (by nofun)) := by intros; rfl
theorem x218 : type_of% (fun v0 v1 v2 v3 v4 => @outS.eq_2 v0 v1 v2 (D.fn v3 v4) (by nofun)) := by intros; rfl
theorem x21i : type_of% (fun v0 v1 v2 => @outS.eq_2 v0 v1 v2 D.nilfn (by nofun)) := by intros; rfl
theorem x20y : type_of% (fun v0 v1 v2 => @outS.eq_2 v0 v1 v2 D.nili (by nofun)) := by intros; rfl
theorem x224 : type_of% (fun v0 v1 v2 => @outS.eq_2 v0 v1 v2 D.nilm (by nofun)) := by intros; rfl
theorem x21j : type_of% (fun v0 v1 v2 v3 v4 => @outS.eq_2 v0 v1 v2 (D.ifc v3 v4) (by nofun)) := by intros; rfl
theorem x210 : type_of% (fun v0 v1 v2 v3 v4 => @outS.eq_6 v0 v1 v2 (A.clo v3 v4) (by nofun) (by nofun) (by nofun) (by nofun) (by nofun)) := by intros; rfl
theorem x22f : type_of% (fun v0 v1 v2 v3 => @outS.eq_6 v0 v1 v2 (A.agg v3) (by nofun) (by nofun) (by nofun) (by nofun) (by nofun)) := by intros; rfl
theorem x22y : type_of% (fun v0 v1 v2 v3 => @outS.eq_6 v0 v1 v2 (A.tup v3) (by nofun) (by nofun) (by nofun) (by nofun) (by nofun)) := by intros; rfl
theorem x20z : type_of% (fun v0 v1 v2 => @outS.eq_6 v0 v1 v2 A.junk (by nofun) (by nofun) (by nofun) (by nofun) (by nofun)) := by intros; rfl
theorem x21q : type_of% (fun v0 v1 => @xbn.eq_4 (List.cons v0 v1) (by nofun)) := (fun v0 v1 => @xbn.eq_4 (List.cons v0 v1) (by nofun))
theorem x20t : type_of% (fun v0 v1 => @x2y.eq_3 (A.d (D.int v0 v1)) (by nofun) (by nofun)) := by intros; rfl
theorem x22e : type_of% (fun v0 => @x2y.eq_3 (A.d (D.bool v0)) (by nofun) (by nofun)) := by intros; rfl
theorem x22h : type_of% (fun v0 => @x2y.eq_3 (A.d (D.str v0)) (by nofun) (by nofun)) := by intros; rfl
theorem x22v : type_of% (fun v0 v1 => @x2y.eq_3 (A.d (D.ivs v0 v1)) (by nofun) (by nofun)) := by intros; rfl
theorem x21w : type_of% (@x2y.eq_3 (A.d D.nils) (by nofun) (by nofun)) := (@x2y.eq_3 (A.d D.nils) (by nofun) (by nofun))
theorem x20j : type_of% (fun v0 => @x2y.eq_3 (A.d (D.iptr v0)) (by nofun) (by nofun)) := by intros; rfl
theorem x20k : type_of% (@x2y.eq_3 (A.d D.nilp) (by nofun) (by nofun)) := (@x2y.eq_3 (A.d D.nilp) (by nofun) (by nofun))
theorem x21v : type_of% (fun v0 v1 => @x2y.eq_3 (A.d (D.fn v0 v1)) (by nofun) (by nofun)) := by intros; rfl
theorem x22x : type_of% (@x2y.eq_3 (A.d D.nilfn) (by nofun) (by nofun)) := (@x2y.eq_3 (A.d D.nilfn) (by nofun) (by nofun))
theorem x20h : type_of% (@x2y.eq_3 (A.d D.nili) (by nofun) (by nofun)) := (@x2y.eq_3 (A.d D.nili) (by nofun) (by nofun))
theorem x21c : type_of% (@x2y.eq_3 (A.d D.nilm) (by nofun) (by nofun)) := (@x2y.eq_3 (A.d D.nilm) (by nofun) (by nofun))
theorem x20n : type_of% (fun v0 v1 => @x2y.eq_3 (A.d (D.ifc v0 v1)) (by nofun) (by nofun)) := by intros; rfl
theorem x22i : type_of% (fun v0 v1 v2 v3 => @x2y.eq_3 (A.sl v0 v1 v2 v3) (by nofun) (by nofun)) := by intros; rfl
theorem x21p : type_of% (fun v0 v1 v2 => @x2y.eq_3 (A.ptr v0 v1 v2) (by nofun) (by nofun)) := by intros; rfl
theorem x20a : type_of% (fun v0 => @x2y.eq_3 (A.mp v0) (by nofun) (by nofun)) := by intros; rfl
theorem x20i : type_of% (fun v0 v1 => @x2y.eq_3 (A.clo v0 v1) (by nofun) (by nofun)) := by intros; rfl
theorem x22k : type_of% (fun v0 => @x2y.eq_3 (A.agg v0) (by nofun) (by nofun)) := by intros; rfl
theorem x220 : type_of% (fun v0 => @x2y.eq_3 (A.tup v0) (by nofun) (by nofun)) := by intros; rfl
theorem x21u : type_of% (fun v0 => @tidy.eq_3 List.nil v0 (by nofun) (by nofun)) := by intros; rfl
theorem x22q : type_of% (fun v0 => @tidy.eq_3 (List.cons Bool.false v0) List.nil (by nofun) (by nofun)) := by intros; rfl
theorem x20p : type_of% (fun v0 => @tidy.eq_3 (List.cons Bool.true v0) List.nil (by nofun) (by nofun)) := by intros; rfl
theorem x22r : type_of% (fun v0 v1 v2 v3 v4 => @x2b.eq_2 v0 v1 v2 v3 (A.d v4) (by nofun)) := by intros; rfl
theorem x21n : type_of% (fun v0 v1 v2 v3 v4 v5 v6 v7 => @x2b.eq_2 v0 v1 v2 v3 (A.sl v4 v5 v6 v7) (by nofun)) := by intros; rfl
theorem x223 : type_of% (fun v0 v1 v2 v3 v4 v5 v6 => @x2b.eq_2 v0 v1 v2 v3 (A.ptr v4 v5 v6) (by nofun)) := by intros; rfl
theorem x20l : type_of% (fun v0 v1 v2 v3 v4 v5 => @x2b.eq_2 v0 v1 v2 v3 (A.clo v4 v5) (by nofun)) := by intros; rfl
theorem x22a : type_of% (fun v0 v1 v2 v3 v4 => @x2b.eq_2 v0 v1 v2 v3 (A.agg v4) (by nofun)) := by intros; rfl
theorem x225 : type_of% (fun v0 v1 v2 v3 v4 => @x2b.eq_2 v0 v1 v2 v3 (A.tup v4) (by nofun)) := by intros; rfl
theorem x21m : type_of% (fun v0 v1 v2 v3 => @x2b.eq_2 v0 v1 v2 v3 A.junk (by nofun)) := by intros; rfl
theorem x20m : type_of% (fun v0 v1 v2 v3 v4 => @x8q.eq_2 v0 v1 v2 (A.d v4) v3 (by nofun)) := by intros; rfl
theorem x20w : type_of% (fun v0 v1 v2 v3 v4 v5 v6 => @x8q.eq_2 v0 v1 v2 (A.ptr v4 v5 v6) v3 (by nofun)) := by intros; rfl
theorem x213 : type_of% (fun v0 v1 v2 v3 v4 => @x8q.eq_2 v0 v1 v2 (A.mp v4) v3 (by nofun)) := by intros; rfl
theorem x21s : type_of% (fun v0 v1 v2 v3 v4 v5 => @x8q.eq_2 v0 v1 v2 (A.clo v4 v5) v3 (by nofun)) := by intros; rfl
theorem x227 : type_of% (fun v0 v1 v2 v3 v4 => @x8q.eq_2 v0 v1 v2 (A.agg v4) v3 (by nofun)) := by intros; rfl
theorem x22u : type_of% (fun v0 v1 v2 v3 v4 => @x8q.eq_2 v0 v1 v2 (A.tup v4) v3 (by nofun)) := by intros; rfl
theorem x21a : type_of% (fun v0 v1 v2 v3 => @x8q.eq_2 v0 v1 v2 A.junk v3 (by nofun)) := by intros; rfl
theorem x21f : type_of% (fun v0 v1 => @xnp.eq_2 v0 (A.d v1) (by nofun)) := by intros; rfl
theorem x214 : type_of% (fun v0 v1 v2 v3 => @xnp.eq_2 v0 (A.ptr v1 v2 v3) (by nofun)) := by intros; rfl
theorem x209 : type_of% (fun v0 v1 => @xnp.eq_2 v0 (A.mp v1) (by nofun)) := by intros; rfl
theorem x22m : type_of% (fun v0 v1 v2 => @xnp.eq_2 v0 (A.clo v1 v2) (by nofun)) := by intros; rfl
theorem x20f : type_of% (fun v0 v1 => @xnp.eq_2 v0 (A.agg v1) (by nofun)) := by intros; rfl
theorem x20e : type_of% (fun v0 v1 => @xnp.eq_2 v0 (A.tup v1) (by nofun)) := by intros; rfl
theorem x22n : type_of% (fun v0 => @xnp.eq_2 v0 A.junk (by nofun)) := by intros; rfl
theorem x20b : type_of% (fun v0 v1 v2 => @x8o.eq_2 v0 v1 (A.d v2) (by nofun)) := by intros; rfl
theorem x22w : type_of% (fun v0 v1 v2 v3 v4 => @x8o.eq_2 v0 v1 (A.ptr v2 v3 v4) (by nofun)) := by intros; rfl
theorem x229 : type_of% (fun v0 v1 v2 => @x8o.eq_2 v0 v1 (A.mp v2) (by nofun)) := by intros; rfl
theorem x204 : type_of% (fun v0 v1 v2 v3 => @x8o.eq_2 v0 v1 (A.clo v2 v3) (by nofun)) := by intros; rfl
theorem x21k : type_of% (fun v0 v1 v2 => @x8o.eq_2 v0 v1 (A.agg v2) (by nofun)) := by intros; rfl
theorem x221 : type_of% (fun v0 v1 v2 => @x8o.eq_2 v0 v1 (A.tup v2) (by nofun)) := by intros; rfl
theorem x21e : type_of% (fun v0 v1 => @x8o.eq_2 v0 v1 A.junk (by nofun)) := by intros; rfl
theorem x20o : type_of% (fun v0 v1 v2 => @frz.eq_5 v0 (A.d v2) v1 (by nofun) (by nofun) (by nofun)) := by intros; rfl
theorem x20r : type_of% (fun v0 v1 v2 => @frz.eq_5 v0 (A.mp v2) v1 (by nofun) (by nofun) (by nofun)) := by intros; rfl
theorem x20v : type_of% (fun v0 v1 v2 => @frz.eq_5 v0 (A.agg v2) v1 (by nofun) (by nofun) (by nofun)) := by intros; rfl
theorem x22b : type_of% (fun v0 v1 v2 => @frz.eq_5 v0 (A.tup v2) v1 (by nofun) (by nofun) (by nofun)) := by intros; rfl
theorem x21y : type_of% (fun v0 v1 => @frz.eq_5 v0 A.junk v1 (by nofun) (by nofun) (by nofun)) := by intros; rfl
theorem x211 : type_of% (fun v0 v1 v2 v3 => @frz0.eq_3 v0 (A.ptr v1 v2 v3) (by nofun) (by nofun)) := by intros; rfl
theorem x21b : type_of% (fun v0 v1 => @frz0.eq_3 v0 (A.mp v1) (by nofun) (by nofun)) := by intros; rfl
theorem x21l : type_of% (fun v0 v1 v2 => @frz0.eq_3 v0 (A.clo v1 v2) (by nofun) (by nofun)) := by intros; rfl
theorem x21x : type_of% (fun v0 v1 => @frz0.eq_3 v0 (A.agg v1) (by nofun) (by nofun)) := by intros; rfl
theorem x217 : type_of% (fun v0 v1 => @frz0.eq_3 v0 (A.tup v1) (by nofun) (by nofun)) := by intros; rfl
theorem x226 : type_of% (fun v0 => @frz0.eq_3 v0 A.junk (by nofun) (by nofun)) := by intros; rfl
theorem x20d : type_of% (fun v0 => @xj.eq_2 (A.d v0) (by nofun)) := by intros; rfl
theorem x202 : type_of% (fun v0 v1 v2 v3 => @xj.eq_2 (A.sl v0 v1 v2 v3) (by nofun)) := by intros; rfl
theorem x21d : type_of% (fun v0 v1 v2 => @xj.eq_2 (A.ptr v0 v1 v2) (by nofun)) := by intros; rfl
theorem x22j : type_of% (fun v0 => @xj.eq_2 (A.mp v0) (by nofun)) := by intros; rfl
theorem x215 : type_of% (fun v0 v1 => @xj.eq_2 (A.clo v0 v1) (by nofun)) := by intros; rfl
theorem x22g : type_of% (fun v0 => @xj.eq_2 (A.tup v0) (by nofun)) := by intros; rfl
theorem x205 : type_of% (@xj.eq_2 A.junk (by nofun)) := (@xj.eq_2 A.junk (by nofun))
theorem x20x : type_of% (fun v0 v1 => @x25.eq_5 (A.d (D.int v0 v1)) (by nofun) (by nofun) (by nofun) (by nofun)) := by intros; rfl
theorem x228 : type_of% (fun v0 => @x25.eq_5 (A.d (D.bool v0)) (by nofun) (by nofun) (by nofun) (by nofun)) := by intros; rfl
theorem x203 : type_of% (fun v0 => @x25.eq_5 (A.d (D.str v0)) (by nofun) (by nofun) (by nofun) (by nofun)) := by intros; rfl
theorem x21h : type_of% (fun v0 v1 => @x25.eq_5 (A.d (D.ivs v0 v1)) (by nofun) (by nofun) (by nofun) (by nofun)) := by intros; rfl
theorem x1x4 : type_of% (@x25.eq_5 (A.d D.nils) (by nofun) (by nofun) (by nofun) (by nofun)) := (@x25.eq_5 (A.d D.nils) (by nofun) (by nofun) (by nofun) (by nofun))
theorem x1xk : type_of% (fun v0 => @x25.eq_5 (A.d (D.iptr v0)) (by nofun) (by nofun) (by nofun) (by nofun)) := by intros; rfl
theorem x1xs : type_of% (@x25.eq_5 (A.d D.nilp) (by nofun) (by nofun) (by nofun) (by nofun)) := (@x25.eq_5 (A.d D.nilp) (by nofun) (by nofun) (by nofun) (by nofun))
theorem x1w2 : type_of% (fun v0 v1 => @x25.eq_5 (A.d (D.fn v0 v1)) (by nofun) (by nofun) (by nofun) (by nofun)) := by intros; rfl
theorem x1vy : type_of% (@x25.eq_5 (A.d D.nilfn) (by nofun) (by nofun) (by nofun) (by nofun)) := (@x25.eq_5 (A.d D.nilfn) (by nofun) (by nofun) (by nofun) (by nofun))
theorem x1xd : type_of% (@x25.eq_5 (A.d D.nili) (by nofun) (by nofun) (by nofun) (by nofun)) := (@x25.eq_5 (A.d D.nili) (by nofun) (by nofun) (by nofun) (by nofun))
theorem x1vh : type_of% (@x25.eq_5 (A.d D.nilm) (by nofun) (by nofun) (by nofun) (by nofun)) := (@x25.eq_5 (A.d D.nilm) (by nofun) (by nofun) (by nofun) (by nofun))
theorem x1sp : type_of% (fun v0 v1 => @x25.eq_5 (A.d (D.ifc v0 v1)) (by nofun) (by nofun) (by nofun) (by nofun)) := by intros; rfl
theorem x1td : type_of% (fun v0 v1 v2 v3 => @x25.eq_5 (A.sl v0 v1 v2 v3) (by nofun) (by nofun) (by nofun) (by nofun)) := by intros; rfl
theorem x1xe : type_of% (fun v0 v1 v2 => @x25.eq_5 (A.ptr v0 v1 v2) (by nofun) (by nofun) (by nofun) (by nofun)) := by intros; rfl
theorem x1sr : type_of% (fun v0 => @x25.eq_5 (A.mp v0) (by nofun) (by nofun) (by nofun) (by nofun)) := by intros; rfl
theorem x1uq : type_of% (fun v0 v1 => @x25.eq_5 (A.clo v0 v1) (by nofun) (by nofun) (by nofun) (by nofun)) := by intros; rfl
theorem x1uo : type_of% (fun v0 => @x9d.eq_2 (A.d v0) (by nofun)) := by intros; rfl
theorem x1ve : type_of% (fun v0 v1 v2 v3 => @x9d.eq_2 (A.sl v0 v1 v2 v3) (by nofun)) := by intros; rfl
theorem x1xr : type_of% (fun v0 v1 v2 => @x9d.eq_2 (A.ptr v0 v1 v2) (by nofun)) := by intros; rfl
theorem x1t5 : type_of% (fun v0 => @x9d.eq_2 (A.mp v0) (by nofun)) := by intros; rfl
theorem x1xc : type_of% (fun v0 v1 => @x9d.eq_2 (A.clo v0 v1) (by nofun)) := by intros; rfl
theorem x1xy : type_of% (fun v0 => @x9d.eq_2 (A.agg v0) (by nofun)) := by intros; rfl
theorem x1wv : type_of% (fun v0 => @x9d.eq_2 (A.tup v0) (by nofun)) := by intros; rfl
theorem x1tj : type_of% (fun v0 v1 v2 v3 => @x65.eq_4 (O.arr v1 v2 v3) v0 (by nofun) (by nofun)) := by intros; rfl
theorem x1xq : type_of% (fun v0 v1 v2 v3 => @x65.eq_4 (O.ice v1 v2 v3) v0 (by nofun) (by nofun)) := by intros; rfl
theorem x1ty : type_of% (fun v0 v1 => @x65.eq_4 (O.mp v1) v0 (by nofun) (by nofun)) := by intros; rfl
theorem x1xa : type_of% (fun v0 => @x65.eq_4 O.void v0 (by nofun) (by nofun)) := by intros; rfl
theorem x1v2 : type_of% (@tupA.eq_2 List.nil (by nofun)) := (@tupA.eq_2 List.nil (by nofun))
theorem x1t6 : type_of% (fun v0 v1 v2 => @tupA.eq_2 (List.cons v0 (List.cons v1 v2)) (by nofun)) := by intros; rfl
theorem x1y0 : type_of% (fun v0 => @xqt.eq_2 List.nil v0 (by nofun)) := by intros; rfl
theorem x1ul : type_of% (fun v0 v1 => @xqt.eq_2 (List.cons v1 List.nil) v0 (by nofun)) := by intros; rfl
theorem x1uv : type_of% (fun v0 v1 v2 => @xqt.eq_2 (List.cons v1 (List.cons v2 List.nil)) v0 (by nofun)) := by intros; rfl
theorem x1wg : type_of% (fun v0 v1 v2 v3 v4 v5 => @xqt.eq_2 (List.cons v1 (List.cons v2 (List.cons v3 (List.cons v4 v5)))) v0 (by nofun)) := by intros; rfl
theorem x1xz : type_of% (fun v0 v1 v2 v3 v4 => @x2n.eq_2 v0 v1 (Go.Operand.tmp v4) v2 v3 (by nofun)) := by intros; rfl
theorem x1sg : type_of% (fun v0 v1 v2 v3 => @x2n.eq_2 v0 v1 (Go.Operand.const v3) v2 (A.d D.undef) (by nofun)) := by intros; rfl
theorem x1tm : type_of% (fun v0 v1 v2 v3 v4 v5 => @x2n.eq_2 v0 v1 (Go.Operand.const v3) v2 (A.d (D.int v4 v5)) (by nofun)) := by intros; rfl
theorem x1t9 : type_of% (fun v0 v1 v2 v3 v4 => @x2n.eq_2 v0 v1 (Go.Operand.const v3) v2 (A.d (D.bool v4)) (by nofun)) := by intros; rfl
theorem x1us : type_of% (fun v0 v1 v2 v3 v4 => @x2n.eq_2 v0 v1 (Go.Operand.const v3) v2 (A.d (D.str v4)) (by nofun)) := by intros; rfl
theorem x1y2 : type_of% (fun v0 v1 v2 v3 v4 v5 => @x2n.eq_2 v0 v1 (Go.Operand.const v3) v2 (A.d (D.ivs v4 v5)) (by nofun)) := by intros; rfl
theorem x1ta : type_of% (fun v0 v1 v2 v3 v4 => @x2n.eq_2 v0 v1 (Go.Operand.const v3) v2 (A.d (D.iptr v4)) (by nofun)) := by intros; rfl
theorem x1w6 : type_of% (fun v0 v1 v2 v3 => @x2n.eq_2 v0 v1 (Go.Operand.const v3) v2 (A.d D.nilp) (by nofun)) := by intros; rfl
theorem x1wm : type_of% (fun v0 v1 v2 v3 v4 v5 => @x2n.eq_2 v0 v1 (Go.Operand.const v3) v2 (A.d (D.fn v4 v5)) (by nofun)) := by intros; rfl
theorem x1sj : type_of% (fun v0 v1 v2 v3 => @x2n.eq_2 v0 v1 (Go.Operand.const v3) v2 (A.d D.nilfn) (by nofun)) := by intros; rfl
theorem x1u6 : type_of% (fun v0 v1 v2 v3 => @x2n.eq_2 v0 v1 (Go.Operand.const v3) v2 (A.d D.nili) (by nofun)) := by intros; rfl
theorem x1uh : type_of% (fun v0 v1 v2 v3 => @x2n.eq_2 v0 v1 (Go.Operand.const v3) v2 (A.d D.nilm) (by nofun)) := by intros; rfl
theorem x1xp : type_of% (fun v0 v1 v2 v3 v4 v5 => @x2n.eq_2 v0 v1 (Go.Operand.const v3) v2 (A.d (D.ifc v4 v5)) (by nofun)) := by intros; rfl
theorem x1xo : type_of% (fun v0 v1 v2 v3 v4 v5 v6 v7 => @x2n.eq_2 v0 v1 (Go.Operand.const v3) v2 (A.sl v4 v5 v6 v7) (by nofun)) := by intros; rfl
theorem x1u2 : type_of% (fun v0 v1 v2 v3 v4 v5 v6 => @x2n.eq_2 v0 v1 (Go.Operand.const v3) v2 (A.ptr v4 v5 v6) (by nofun)) := by intros; rfl
theorem x1wa : type_of% (fun v0 v1 v2 v3 v4 => @x2n.eq_2 v0 v1 (Go.Operand.const v3) v2 (A.mp v4) (by nofun)) := by intros; rfl
theorem x1vi : type_of% (fun v0 v1 v2 v3 v4 v5 => @x2n.eq_2 v0 v1 (Go.Operand.const v3) v2 (A.clo v4 v5) (by nofun)) := by intros; rfl
theorem x1u5 : type_of% (fun v0 v1 v2 v3 v4 => @x2n.eq_2 v0 v1 (Go.Operand.const v3) v2 (A.agg v4) (by nofun)) := by intros; rfl
theorem x1tv : type_of% (fun v0 v1 v2 v3 v4 => @x2n.eq_2 v0 v1 (Go.Operand.const v3) v2 (A.tup v4) (by nofun)) := by intros; rfl
theorem x1tw : type_of% (fun v0 v1 v2 v3 => @x2n.eq_2 v0 v1 (Go.Operand.const v3) v2 A.junk (by nofun)) := by intros; rfl
theorem x1xl : type_of% (fun v0 v1 v2 v3 v4 => @x2n.eq_2 v0 v1 (Go.Operand.global v4) v2 v3 (by nofun)) := by intros; rfl
theorem x1ua : type_of% (fun v0 v1 v2 v3 v4 => @x2n.eq_2 v0 v1 (Go.Operand.func v4) v2 v3 (by nofun)) := by intros; rfl
theorem x1wu : type_of% (fun v0 => @x1b.eq_2 (Go.Op.move v0) (by nofun)) := by intros; rfl
theorem x1x7 : type_of% (fun v0 => @x1b.eq_2 (Go.Op.assign v0) (by nofun)) := by intros; rfl
theorem x1v8 : type_of% (fun v0 v1 v2 => @x1b.eq_2 (Go.Op.pick v0 v1 v2) (by nofun)) := by intros; rfl
theorem x1vj : type_of% (fun v0 => @x1b.eq_2 (Go.Op.alloc v0) (by nofun)) := by intros; rfl
theorem x1w0 : type_of% (fun v0 v1 => @x1b.eq_2 (Go.Op.box v0 v1) (by nofun)) := by intros; rfl
theorem x1uj : type_of% (fun v0 v1 => @x1b.eq_2 (Go.Op.build v0 v1) (by nofun)) := by intros; rfl
theorem x1u4 : type_of% (fun v0 v1 v2 => @x1b.eq_2 (Go.Op.buildSlice v0 v1 v2) (by nofun)) := by intros; rfl
theorem x1wd : type_of% (fun v0 v1 v2 v3 => @x1b.eq_2 (Go.Op.insert v0 v1 v2 v3) (by nofun)) := by intros; rfl
theorem x1t2 : type_of% (fun v0 v1 => @x1b.eq_2 (Go.Op.load v0 v1) (by nofun)) := by intros; rfl
theorem x1w8 : type_of% (fun v0 v1 v2 => @x1b.eq_2 (Go.Op.store v0 v1 v2) (by nofun)) := by intros; rfl
theorem x1sq : type_of% (fun v0 => @x1b.eq_2 (Go.Op.ready v0) (by nofun)) := by intros; rfl
theorem x1vk : type_of% (fun v0 => @x1b.eq_2 (Go.Op.waits v0) (by nofun)) := by intros; rfl
theorem x1vg : type_of% (fun v0 => @x1b.eq_2 (Go.Op.nilCheck v0) (by nofun)) := by intros; rfl
theorem x1xm : type_of% (fun v0 v1 v2 v3 v4 => @x1b.eq_2 (Go.Op.binOp v0 v1 v2 v3 v4) (by nofun)) := by intros; rfl
theorem x1u8 : type_of% (fun v0 v1 v2 => @x1b.eq_2 (Go.Op.unOp v0 v1 v2) (by nofun)) := by intros; rfl
theorem x1x8 : type_of% (fun v0 v1 v2 => @x1b.eq_2 (Go.Op.convert v0 v1 v2) (by nofun)) := by intros; rfl
theorem x1sv : type_of% (fun v0 v1 => @x1b.eq_2 (Go.Op.sliceToArrayPointer v0 v1) (by nofun)) := by intros; rfl
theorem x1v6 : type_of% (fun v0 v1 => @x1b.eq_2 (Go.Op.makeInterface v0 v1) (by nofun)) := by intros; rfl
theorem x1te : type_of% (fun v0 v1 v2 => @x1b.eq_2 (Go.Op.makeFunc v0 v1 v2) (by nofun)) := by intros; rfl
theorem x1xw : type_of% (fun v0 v1 => @x1b.eq_2 (Go.Op.makeMap v0 v1) (by nofun)) := by intros; rfl
theorem x1tr : type_of% (fun v0 v1 => @x1b.eq_2 (Go.Op.makeChan v0 v1) (by nofun)) := by intros; rfl
theorem x1xx : type_of% (fun v0 v1 v2 => @x1b.eq_2 (Go.Op.makeSlice v0 v1 v2) (by nofun)) := by intros; rfl
theorem x1vd : type_of% (fun v0 v1 v2 v3 v4 => @x1b.eq_2 (Go.Op.slice v0 v1 v2 v3 v4) (by nofun)) := by intros; rfl
theorem x1v7 : type_of% (fun v0 v1 v2 => @x1b.eq_2 (Go.Op.fieldAddr v0 v1 v2) (by nofun)) := by intros; rfl
theorem x1y4 : type_of% (fun v0 v1 v2 => @x1b.eq_2 (Go.Op.field v0 v1 v2) (by nofun)) := by intros; rfl
theorem x1sh : type_of% (fun v0 v1 v2 => @x1b.eq_2 (Go.Op.indexAddr v0 v1 v2) (by nofun)) := by intros; rfl
theorem x1xf : type_of% (fun v0 v1 v2 => @x1b.eq_2 (Go.Op.index v0 v1 v2) (by nofun)) := by intros; rfl
theorem x1ur : type_of% (fun v0 v1 v2 v3 => @x1b.eq_2 (Go.Op.lookup v0 v1 v2 v3) (by nofun)) := by intros; rfl
theorem x1x2 : type_of% (fun v0 v1 v2 v3 => @x1b.eq_2 (Go.Op.mapUpdate v0 v1 v2 v3) (by nofun)) := by intros; rfl
theorem x1wn : type_of% (fun v0 v1 v2 => @x1b.eq_2 (Go.Op.mapEntry v0 v1 v2) (by nofun)) := by intros; rfl
theorem x1xj : type_of% (fun v0 v1 v2 v3 => @x1b.eq_2 (Go.Op.entryStore v0 v1 v2 v3) (by nofun)) := by intros; rfl
theorem x1y3 : type_of% (fun v0 v1 => @x1b.eq_2 (Go.Op.range v0 v1) (by nofun)) := by intros; rfl
theorem x1va : type_of% (fun v0 v1 => @x1b.eq_2 (Go.Op.next v0 v1) (by nofun)) := by intros; rfl
theorem x1sm : type_of% (fun v0 => @x1b.eq_2 (Go.Op.entry v0) (by nofun)) := by intros; rfl
theorem x1x6 : type_of% (fun v0 v1 v2 v3 => @x1b.eq_2 (Go.Op.typeAssert v0 v1 v2 v3) (by nofun)) := by intros; rfl
theorem x1uy : type_of% (fun v0 v1 => @x1b.eq_2 (Go.Op.extract v0 v1) (by nofun)) := by intros; rfl
theorem x1tg : type_of% (fun v0 => @x1b.eq_2 (Go.Op.go v0) (by nofun)) := by intros; rfl
theorem x1tx : type_of% (fun v0 => @x1b.eq_2 (Go.Op.defer v0) (by nofun)) := by intros; rfl
theorem x1xn : type_of% (fun v0 => @x1b.eq_2 (Go.Op.panic v0) (by nofun)) := by intros; rfl
theorem x1ub : type_of% (fun v0 v1 => @x1b.eq_2 (Go.Op.send v0 v1) (by nofun)) := by intros; rfl
theorem x1wy : type_of% (fun v0 v1 v2 => @x1b.eq_2 (Go.Op.recv v0 v1 v2) (by nofun)) := by intros; rfl
theorem x1x1 : type_of% (fun v0 v1 => @x1b.eq_2 (Go.Op.select v0 v1) (by nofun)) := by intros; rfl
theorem x1wj : type_of% (fun v0 v1 => @xm.eq_3 v0 (A.d D.undef) v1 (by nofun)) := by intros; rfl
theorem x1xg : type_of% (fun v0 v1 v2 v3 => @xm.eq_3 v0 (A.d (D.int v2 v3)) v1 (by nofun)) := by intros; rfl
theorem x1tt : type_of% (fun v0 v1 v2 => @xm.eq_3 v0 (A.d (D.bool v2)) v1 (by nofun)) := by intros; rfl
theorem x1vf : type_of% (fun v0 v1 v2 => @xm.eq_3 v0 (A.d (D.str v2)) v1 (by nofun)) := by intros; rfl
theorem x1xi : type_of% (fun v0 v1 v2 v3 => @xm.eq_3 v0 (A.d (D.ivs v2 v3)) v1 (by nofun)) := by intros; rfl
theorem x1w5 : type_of% (fun v0 v1 v2 => @xm.eq_3 v0 (A.d (D.iptr v2)) v1 (by nofun)) := by intros; rfl
theorem x1ss : type_of% (fun v0 v1 => @xm.eq_3 v0 (A.d D.nilp) v1 (by nofun)) := by intros; rfl
theorem x1uw : type_of% (fun v0 v1 v2 v3 => @xm.eq_3 v0 (A.d (D.fn v2 v3)) v1 (by nofun)) := by intros; rfl
theorem x1u9 : type_of% (fun v0 v1 => @xm.eq_3 v0 (A.d D.nilfn) v1 (by nofun)) := by intros; rfl
theorem x1v0 : type_of% (fun v0 v1 => @xm.eq_3 v0 (A.d D.nili) v1 (by nofun)) := by intros; rfl
theorem x1xt : type_of% (fun v0 v1 => @xm.eq_3 v0 (A.d D.nilm) v1 (by nofun)) := by intros; rfl
theorem x1w4 : type_of% (fun v0 v1 v2 v3 => @xm.eq_3 v0 (A.d (D.ifc v2 v3)) v1 (by nofun)) := by intros; rfl
theorem x1wt : type_of% (fun v0 v1 v2 v3 v4 v5 => @xm.eq_3 v0 (A.sl v2 v3 v4 v5) v1 (by nofun)) := by intros; rfl
theorem x1w1 : type_of% (fun v0 v1 v2 v3 v4 => @xm.eq_3 v0 (A.ptr v2 v3 v4) v1 (by nofun)) := by intros; rfl
theorem x1tb : type_of% (fun v0 v1 v2 => @xm.eq_3 v0 (A.mp v2) v1 (by nofun)) := by intros; rfl
theorem x1x3 : type_of% (fun v0 v1 v2 v3 => @xm.eq_3 v0 (A.clo v2 v3) v1 (by nofun)) := by intros; rfl
theorem x1sk : type_of% (fun v0 v1 v2 => @xm.eq_3 v0 (A.agg v2) v1 (by nofun)) := by intros; rfl
theorem x1wr : type_of% (fun v0 v1 v2 => @xm.eq_3 v0 (A.tup v2) v1 (by nofun)) := by intros; rfl
theorem x1th : type_of% (fun v0 v1 => @xm.eq_3 v0 A.junk v1 (by nofun)) := by intros; rfl
theorem x1vv : type_of% (fun v0 v1 v2 v3 => @mapO.eq_3 v0 (O.arr v1 v2 v3) (by nofun) (by nofun)) := by intros; rfl
theorem x1wf : type_of% (fun v0 v1 v2 v3 => @mapO.eq_3 v0 (O.ice v1 v2 v3) (by nofun) (by nofun)) := by intros; rfl
theorem x1w3 : type_of% (fun v0 v1 => @mapO.eq_3 v0 (O.mp v1) (by nofun) (by nofun)) := by intros; rfl
theorem x1v9 : type_of% (fun v0 => @mapO.eq_3 v0 O.void (by nofun) (by nofun)) := by intros; rfl
theorem x1y5 : type_of% (fun v0 v1 => @frzA.eq_2 v0 (A.d v1) (by nofun)) := by intros; rfl
theorem x1sn : type_of% (fun v0 v1 v2 v3 v4 => @frzA.eq_2 v0 (A.sl v1 v2 v3 v4) (by nofun)) := by intros; rfl
theorem x1tk : type_of% (fun v0 v1 v2 v3 => @frzA.eq_2 v0 (A.ptr v1 v2 v3) (by nofun)) := by intros; rfl
theorem x1tq : type_of% (fun v0 v1 => @frzA.eq_2 v0 (A.mp v1) (by nofun)) := by intros; rfl
theorem x1tc : type_of% (fun v0 v1 v2 => @frzA.eq_2 v0 (A.clo v1 v2) (by nofun)) := by intros; rfl
theorem x1wp : type_of% (fun v0 v1 => @frzA.eq_2 v0 (A.tup v1) (by nofun)) := by intros; rfl
theorem x1wl : type_of% (fun v0 => @frzA.eq_2 v0 A.junk (by nofun)) := by intros; rfl
theorem x1uc : type_of% (fun v0 v1 v2 v3 v4 v5 v6 => @x5s.eq_4 v0 v1 v2 (Go.Callee.invoke v5 v6) v3 v4 (by nofun) (by nofun)) := by intros; rfl
theorem UN0 : type_of% (AI @x1dh (AI @x1hn (AI @x1cg (AI @x17z (AI @x1de (AI @x1kf (AI @x1ph (AI @x1hf (AI @x1q5 (AI @x1ba (AI @x1p9 (AI @x1hv (AI @aLen.eq_def (AI @x10p (AI @x1ay (AI @x1d6 (AI @x1ix (AI @x16f (AI @x124 (AI @x1hc (AI @x16j (AI @x1cb (AI @x13q (AI @x11e (AI @x14u (AI @x1gp (AI @x1h1 (AI @x1h9 (AI @x1gv (AI @x1q1 (AI @x1q2 (AI @x1q3 (AI @List.replicate.eq_1.{0} (AI @List.replicate.eq_2.{0} (AI @List.range'.eq_1 (AI @List.range'.eq_2 (AI True.intro (AI @xnz.eq_1 (AI @xnz.eq_2 @xxs.eq_1))))))))))))))))))))))))))))))))))))))) :=
 ⟨@x1dh,@x1hn,@x1cg,@x17z,@x1de,@x1kf,@x1ph,@x1hf,@x1q5,@x1ba,@x1p9,@x1hv,@aLen.eq_def,@x10p,@x1ay,@x1d6,@x1ix,@x16f,@x124,@x1hc,@x16j,@x1cb,@x13q,@x11e,@x14u,@x1gp,@x1h1,@x1h9,@x1gv,@x1q1,@x1q2,@x1q3,@List.replicate.eq_1.{0},@List.replicate.eq_2.{0},@List.range'.eq_1,@List.range'.eq_2,True.intro,@xnz.eq_1,@xnz.eq_2,@xxs.eq_1⟩
theorem UN1 : type_of% (AI @aPut.eq_1 (AI @aPut.eq_2 (AI @x62.eq_1 (AI @x62.eq_2 (AI @UNx1 (AI @UNx2 (AI @UNx3 (AI @UNx4 (AI @outA.eq_1 (AI @UNx5 (AI @UNx6 (AI @UNx7 (AI @UNx8 (AI @UNx9 (AI @x207 (AI @x21o (AI @outS.eq_1 (AI @x216 (AI @x22c (AI @x20s (AI @x22d (AI @x20u (AI @x222 (AI @x208 (AI @x218 (AI @x21i (AI @x20y (AI @x224 (AI @x21j (AI @outS.eq_3 (AI @outS.eq_4 (AI @outS.eq_5 (AI @x210 (AI @x22f (AI @x22y (AI @x20z (AI @xqk.eq_1 (AI @xqk.eq_2 (AI @idsA.eq_1 @idsA.eq_2))))))))))))))))))))))))))))))))))))))) :=
 ⟨@aPut.eq_1,@aPut.eq_2,@x62.eq_1,@x62.eq_2,@UNx1,@UNx2,@UNx3,@UNx4,@outA.eq_1,@UNx5,@UNx6,@UNx7,@UNx8,@UNx9,@x207,@x21o,@outS.eq_1,@x216,@x22c,@x20s,@x22d,@x20u,@x222,@x208,@x218,@x21i,@x20y,@x224,@x21j,@outS.eq_3,@outS.eq_4,@outS.eq_5,@x210,@x22f,@x22y,@x20z,@xqk.eq_1,@xqk.eq_2,@idsA.eq_1,@idsA.eq_2⟩
theorem UN2 : type_of% (AI @idsA.eq_3 (AI @idsA.eq_4 (AI @idsA.eq_5 (AI @idsA.eq_6 (AI @idsA.eq_7 (AI @idsA.eq_8 (AI @idsL.eq_1 (AI @idsL.eq_2 (AI @mapA.eq_1 (AI @mapA.eq_2 (AI @mapA.eq_3 (AI @mapA.eq_4 (AI @mapA.eq_5 (AI @mapA.eq_6 (AI @mapA.eq_7 (AI @mapA.eq_8 (AI @x29.eq_1 (AI @x29.eq_2 (AI @x2i.eq_1 (AI @x2i.eq_2 (AI @x2i.eq_3 (AI @x2i.eq_4 (AI @x2i.eq_5 (AI @x2i.eq_6 (AI @x2i.eq_7 (AI @x2i.eq_8 (AI @xk4.eq_1 (AI @xxe.eq_1 (AI @x3u.eq_1 (AI @x8a.eq_1 (AI @x4i.eq_1 (AI @x4i.eq_2 (AI @x2g.eq_1 (AI @x2g.eq_2 (AI @x2g.eq_3 (AI @x2g.eq_4 (AI @x2g.eq_5 (AI @x2g.eq_6 (AI @xd.eq_1 @xd.eq_2))))))))))))))))))))))))))))))))))))))) :=
 ⟨@idsA.eq_3,@idsA.eq_4,@idsA.eq_5,@idsA.eq_6,@idsA.eq_7,@idsA.eq_8,@idsL.eq_1,@idsL.eq_2,@mapA.eq_1,@mapA.eq_2,@mapA.eq_3,@mapA.eq_4,@mapA.eq_5,@mapA.eq_6,@mapA.eq_7,@mapA.eq_8,@x29.eq_1,@x29.eq_2,@x2i.eq_1,@x2i.eq_2,@x2i.eq_3,@x2i.eq_4,@x2i.eq_5,@x2i.eq_6,@x2i.eq_7,@x2i.eq_8,@xk4.eq_1,@xxe.eq_1,@x3u.eq_1,@x8a.eq_1,@x4i.eq_1,@x4i.eq_2,@x2g.eq_1,@x2g.eq_2,@x2g.eq_3,@x2g.eq_4,@x2g.eq_5,@x2g.eq_6,@xd.eq_1,@xd.eq_2⟩
theorem UN3 : type_of% (AI @xbn.eq_1 (AI @xbn.eq_2 (AI @xbn.eq_3 (AI @x21q (AI @x2y.eq_1 (AI @x2y.eq_2 (AI @x20t (AI @x22e (AI @x22h (AI @x22v (AI @x21w (AI @x20j (AI @x20k (AI @x21v (AI @x22x (AI @x20h (AI @x21c (AI @x20n (AI @x22i (AI @x21p (AI @x20a (AI @x20i (AI @x22k (AI @x220 (AI @tidy.eq_1 (AI @tidy.eq_2 (AI @x21u (AI @x22q (AI @x20p (AI @x2b.eq_1 (AI @x22r (AI @x21n (AI @x223 (AI @x20l (AI @x22a (AI @x225 (AI @x21m (AI @x2b.eq_3 (AI @x8q.eq_1 @x20m))))))))))))))))))))))))))))))))))))))) :=
 ⟨@xbn.eq_1,@xbn.eq_2,@xbn.eq_3,@x21q,@x2y.eq_1,@x2y.eq_2,@x20t,@x22e,@x22h,@x22v,@x21w,@x20j,@x20k,@x21v,@x22x,@x20h,@x21c,@x20n,@x22i,@x21p,@x20a,@x20i,@x22k,@x220,@tidy.eq_1,@tidy.eq_2,@x21u,@x22q,@x20p,@x2b.eq_1,@x22r,@x21n,@x223,@x20l,@x22a,@x225,@x21m,@x2b.eq_3,@x8q.eq_1,@x20m⟩
theorem UN4 : type_of% (AI @x20w (AI @x213 (AI @x21s (AI @x227 (AI @x22u (AI @x21a (AI @xd4.eq_1 (AI @xeo.eq_1 (AI @x1jo.eq_1 (AI @xnp.eq_1 (AI @x21f (AI @x214 (AI @x209 (AI @x22m (AI @x20f (AI @x20e (AI @x22n (AI @xsc.eq_1 (AI @x8o.eq_1 (AI @x20b (AI @x22w (AI @x229 (AI @x204 (AI @x21k (AI @x221 (AI @x21e (AI @xzo.eq_1 (AI @xit.eq_1 (AI @x2w.eq_1 (AI @x2w.eq_2 (AI @x2w.eq_3 (AI @x2w.eq_4 (AI @xdj.eq_1 (AI @xcr.eq_1 (AI @xnh.eq_1 (AI @xbl.eq_1 (AI @xbl.eq_2 (AI @xfh.eq_1 (AI @x7t.eq_1 @x3m.eq_1))))))))))))))))))))))))))))))))))))))) :=
 ⟨@x20w,@x213,@x21s,@x227,@x22u,@x21a,@xd4.eq_1,@xeo.eq_1,@x1jo.eq_1,@xnp.eq_1,@x21f,@x214,@x209,@x22m,@x20f,@x20e,@x22n,@xsc.eq_1,@x8o.eq_1,@x20b,@x22w,@x229,@x204,@x21k,@x221,@x21e,@xzo.eq_1,@xit.eq_1,@x2w.eq_1,@x2w.eq_2,@x2w.eq_3,@x2w.eq_4,@xdj.eq_1,@xcr.eq_1,@xnh.eq_1,@xbl.eq_1,@xbl.eq_2,@xfh.eq_1,@x7t.eq_1,@x3m.eq_1⟩
theorem UN5 : type_of% (AI @x3m.eq_2 (AI @x3m.eq_3 (AI @frzL.eq_1 (AI @x57.eq_1 (AI @x57.eq_2 (AI @frz.eq_1 (AI @frz.eq_2 (AI @frz.eq_3 (AI @frz.eq_4 (AI @x20o (AI @x20r (AI @x20v (AI @x22b (AI @x21y (AI @frz0.eq_1 (AI @frz0.eq_2 (AI @x211 (AI @x21b (AI @x21l (AI @x21x (AI @x217 (AI @x226 (AI @deep.eq_1 (AI @xj.eq_1 (AI @x20d (AI @x202 (AI @x21d (AI @x22j (AI @x215 (AI @x22g (AI @x205 (AI @x35.eq_1 (AI @x25.eq_1 (AI @x25.eq_2 (AI @x25.eq_3 (AI @x25.eq_4 (AI @x20x (AI @x228 (AI @x203 @x21h))))))))))))))))))))))))))))))))))))))) :=
 ⟨@x3m.eq_2,@x3m.eq_3,@frzL.eq_1,@x57.eq_1,@x57.eq_2,@frz.eq_1,@frz.eq_2,@frz.eq_3,@frz.eq_4,@x20o,@x20r,@x20v,@x22b,@x21y,@frz0.eq_1,@frz0.eq_2,@x211,@x21b,@x21l,@x21x,@x217,@x226,@deep.eq_1,@xj.eq_1,@x20d,@x202,@x21d,@x22j,@x215,@x22g,@x205,@x35.eq_1,@x25.eq_1,@x25.eq_2,@x25.eq_3,@x25.eq_4,@x20x,@x228,@x203,@x21h⟩
theorem UN6 : type_of% (AI @x1x4 (AI @x1xk (AI @x1xs (AI @x1w2 (AI @x1vy (AI @x1xd (AI @x1vh (AI @x1sp (AI @x1td (AI @x1xe (AI @x1sr (AI @x1uq (AI @x9d.eq_1 (AI @x1uo (AI @x1ve (AI @x1xr (AI @x1t5 (AI @x1xc (AI @x1xy (AI @x1wv (AI @x65.eq_1 (AI @x65.eq_2 (AI @x65.eq_3 (AI @x1tj (AI @x1xq (AI @x1ty (AI @x1xa (AI @xaf.eq_1 (AI @xaf.eq_2 (AI @xn6.eq_1 (AI @xn6.eq_2 (AI @xkk.eq_1 (AI @xkk.eq_2 (AI @tupA.eq_1 (AI @x1v2 (AI @x1t6 (AI @x6m.eq_1 (AI @x6m.eq_2 (AI @x6m.eq_3 @x6m.eq_4))))))))))))))))))))))))))))))))))))))) :=
 ⟨@x1x4,@x1xk,@x1xs,@x1w2,@x1vy,@x1xd,@x1vh,@x1sp,@x1td,@x1xe,@x1sr,@x1uq,@x9d.eq_1,@x1uo,@x1ve,@x1xr,@x1t5,@x1xc,@x1xy,@x1wv,@x65.eq_1,@x65.eq_2,@x65.eq_3,@x1tj,@x1xq,@x1ty,@x1xa,@xaf.eq_1,@xaf.eq_2,@xn6.eq_1,@xn6.eq_2,@xkk.eq_1,@xkk.eq_2,@tupA.eq_1,@x1v2,@x1t6,@x6m.eq_1,@x6m.eq_2,@x6m.eq_3,@x6m.eq_4⟩
theorem UN7 : type_of% (AI @xfq.eq_1 (AI @xfq.eq_2 (AI @opds.eq_1 (AI @opds.eq_2 (AI @opds.eq_3 (AI @opds.eq_4 (AI @opds.eq_5 (AI @opds.eq_6 (AI @opds.eq_7 (AI @opds.eq_8 (AI @opds.eq_9 (AI @opds.eq_10 (AI @opds.eq_11 (AI @opds.eq_12 (AI @opds.eq_13 (AI @opds.eq_14 (AI @opds.eq_15 (AI @opds.eq_16 (AI @opds.eq_17 (AI @opds.eq_18 (AI @opds.eq_19 (AI @opds.eq_20 (AI @opds.eq_21 (AI @opds.eq_22 (AI @opds.eq_23 (AI @opds.eq_24 (AI @evOp.eq_1 (AI @x7n.eq_1 (AI @one.eq_1 (AI @two.eq_1 (AI @xqt.eq_1 (AI @x1y0 (AI @x1ul (AI @x1uv (AI @x1wg (AI @xmj.eq_1 (AI @xmx.eq_1 (AI @x2n.eq_1 (AI @x1xz @x1sg))))))))))))))))))))))))))))))))))))))) :=
 ⟨@xfq.eq_1,@xfq.eq_2,@opds.eq_1,@opds.eq_2,@opds.eq_3,@opds.eq_4,@opds.eq_5,@opds.eq_6,@opds.eq_7,@opds.eq_8,@opds.eq_9,@opds.eq_10,@opds.eq_11,@opds.eq_12,@opds.eq_13,@opds.eq_14,@opds.eq_15,@opds.eq_16,@opds.eq_17,@opds.eq_18,@opds.eq_19,@opds.eq_20,@opds.eq_21,@opds.eq_22,@opds.eq_23,@opds.eq_24,@evOp.eq_1,@x7n.eq_1,@one.eq_1,@two.eq_1,@xqt.eq_1,@x1y0,@x1ul,@x1uv,@x1wg,@xmj.eq_1,@xmx.eq_1,@x2n.eq_1,@x1xz,@x1sg⟩
theorem UN8 : type_of% (AI @x1tm (AI @x1t9 (AI @x1us (AI @x1y2 (AI @x1ta (AI @x1w6 (AI @x1wm (AI @x1sj (AI @x1u6 (AI @x1uh (AI @x1xp (AI @x1xo (AI @x1u2 (AI @x1wa (AI @x1vi (AI @x1u5 (AI @x1tv (AI @x1tw (AI @x1xl (AI @x1ua (AI @aNew.eq_1 (AI @x7v.eq_1 (AI @x7v.eq_2 (AI @x7v.eq_3 (AI @x7v.eq_4 (AI @xr8.eq_1 (AI @xin.eq_1 (AI @xx6.eq_1 (AI @x21.eq_1 (AI @x21.eq_2 (AI @x21.eq_3 (AI @x21.eq_4 (AI @x21.eq_5 (AI @x21.eq_6 (AI @x21.eq_7 (AI @x21.eq_8 (AI @x21.eq_9 (AI @x21.eq_10 (AI @x21.eq_11 @x1b.eq_1))))))))))))))))))))))))))))))))))))))) :=
 ⟨@x1tm,@x1t9,@x1us,@x1y2,@x1ta,@x1w6,@x1wm,@x1sj,@x1u6,@x1uh,@x1xp,@x1xo,@x1u2,@x1wa,@x1vi,@x1u5,@x1tv,@x1tw,@x1xl,@x1ua,@aNew.eq_1,@x7v.eq_1,@x7v.eq_2,@x7v.eq_3,@x7v.eq_4,@xr8.eq_1,@xin.eq_1,@xx6.eq_1,@x21.eq_1,@x21.eq_2,@x21.eq_3,@x21.eq_4,@x21.eq_5,@x21.eq_6,@x21.eq_7,@x21.eq_8,@x21.eq_9,@x21.eq_10,@x21.eq_11,@x1b.eq_1⟩
theorem UN9 : type_of% (AI @x1wu (AI @x1x7 (AI @x1v8 (AI @x1vj (AI @x1w0 (AI @x1uj (AI @x1u4 (AI @x1wd (AI @x1t2 (AI @x1w8 (AI @x1sq (AI @x1vk (AI @x1vg (AI @x1xm (AI @x1u8 (AI @x1x8 (AI @x1sv (AI @x1v6 (AI @x1te (AI @x1xw (AI @x1tr (AI @x1xx (AI @x1vd (AI @x1v7 (AI @x1y4 (AI @x1sh (AI @x1xf (AI @x1ur (AI @x1x2 (AI @x1wn (AI @x1xj (AI @x1y3 (AI @x1va (AI @x1sm (AI @x1x6 (AI @x1uy (AI @x1tg (AI @x1tx (AI @x1xn @x1ub))))))))))))))))))))))))))))))))))))))) :=
 ⟨@x1wu,@x1x7,@x1v8,@x1vj,@x1w0,@x1uj,@x1u4,@x1wd,@x1t2,@x1w8,@x1sq,@x1vk,@x1vg,@x1xm,@x1u8,@x1x8,@x1sv,@x1v6,@x1te,@x1xw,@x1tr,@x1xx,@x1vd,@x1v7,@x1y4,@x1sh,@x1xf,@x1ur,@x1x2,@x1wn,@x1xj,@x1y3,@x1va,@x1sm,@x1x6,@x1uy,@x1tg,@x1tx,@x1xn,@x1ub⟩
theorem UN10 : type_of% (AI @x1wy (AI @x1x1 (AI @back.eq_1 (AI @xx.eq_1 (AI @xx.eq_2 (AI @xx.eq_3 (AI @x7.eq_1 (AI @closed.eq_1 (AI @x92.eq_1 (AI @xm.eq_1 (AI @xm.eq_2 (AI @x1wj (AI @x1xg (AI @x1tt (AI @x1vf (AI @x1xi (AI @x1w5 (AI @x1ss (AI @x1uw (AI @x1u9 (AI @x1v0 (AI @x1xt (AI @x1w4 (AI @x1wt (AI @x1w1 (AI @x1tb (AI @x1x3 (AI @x1sk (AI @x1wr (AI @x1th (AI @x8.eq_1 (AI @x8.eq_2 (AI @pack.eq_1 (AI @mapO.eq_1 (AI @mapO.eq_2 (AI @x1vv (AI @x1wf (AI @x1w3 (AI @x1v9 @x28.eq_1))))))))))))))))))))))))))))))))))))))) :=
 ⟨@x1wy,@x1x1,@back.eq_1,@xx.eq_1,@xx.eq_2,@xx.eq_3,@x7.eq_1,@closed.eq_1,@x92.eq_1,@xm.eq_1,@xm.eq_2,@x1wj,@x1xg,@x1tt,@x1vf,@x1xi,@x1w5,@x1ss,@x1uw,@x1u9,@x1v0,@x1xt,@x1w4,@x1wt,@x1w1,@x1tb,@x1x3,@x1sk,@x1wr,@x1th,@x8.eq_1,@x8.eq_2,@pack.eq_1,@mapO.eq_1,@mapO.eq_2,@x1vv,@x1wf,@x1w3,@x1v9,@x28.eq_1⟩
theorem UN11 : type_of% (AI @frzA.eq_1 (AI @x1y5 (AI @x1sn (AI @x1tk (AI @x1tq (AI @x1tc (AI @x1wp (AI @x1wl (AI @x74.eq_1 (AI @x74.eq_2 (AI @memD.eq_1 (AI @xw.eq_1 (AI @xbi.eq_1 (AI @x5s.eq_1 (AI @x5s.eq_2 (AI @x5s.eq_3 @x1uc)))))))))))))))) :=
 ⟨@frzA.eq_1,@x1y5,@x1sn,@x1tk,@x1tq,@x1tc,@x1wp,@x1wl,@x74.eq_1,@x74.eq_2,@memD.eq_1,@xw.eq_1,@xbi.eq_1,@x5s.eq_1,@x5s.eq_2,@x5s.eq_3,@x1uc⟩
theorem UN : type_of% (AI @UN0 (AI @UN1 (AI @UN2 (AI @UN3 (AI @UN4 (AI @UN5 (AI @UN6 (AI @UN7 (AI @UN8 (AI @UN9 (AI @UN10 @UN11))))))))))) :=
 ⟨@UN0,@UN1,@UN2,@UN3,@UN4,@UN5,@UN6,@UN7,@UN8,@UN9,@UN10,@UN11⟩
theorem x21t : type_of% (fun v0 v1 v2 v3 v4 => @slim.eq_9 v0 (Go.Code.rangeFunc v1 v2 v3 v4) (by nofun) (by nofun) (by nofun) (by nofun) (by nofun) (by nofun) (by nofun) (by nofun)) := (fun v0 v1 v2 v3 v4 => @slim.eq_9 v0 (Go.Code.rangeFunc v1 v2 v3 v4) (by nofun) (by nofun) (by nofun) (by nofun) (by nofun) (by nofun) (by nofun) (by nofun))
theorem x22o : type_of% (fun v0 v1 => @slim.eq_9 v0 (Go.Code.scope v1) (by nofun) (by nofun) (by nofun) (by nofun) (by nofun) (by nofun) (by nofun) (by nofun)) := (fun v0 v1 => @slim.eq_9 v0 (Go.Code.scope v1) (by nofun) (by nofun) (by nofun) (by nofun) (by nofun) (by nofun) (by nofun) (by nofun))
theorem x212 : type_of% (fun v0 v1 => @slim.eq_9 v0 (Go.Code.label v1) (by nofun) (by nofun) (by nofun) (by nofun) (by nofun) (by nofun) (by nofun) (by nofun)) := (fun v0 v1 => @slim.eq_9 v0 (Go.Code.label v1) (by nofun) (by nofun) (by nofun) (by nofun) (by nofun) (by nofun) (by nofun) (by nofun))
theorem x20g : type_of% (fun v0 v1 => @slim.eq_9 v0 (Go.Code.goto v1) (by nofun) (by nofun) (by nofun) (by nofun) (by nofun) (by nofun) (by nofun) (by nofun)) := (fun v0 v1 => @slim.eq_9 v0 (Go.Code.goto v1) (by nofun) (by nofun) (by nofun) (by nofun) (by nofun) (by nofun) (by nofun) (by nofun))
theorem x21g : type_of% (fun v0 v1 => @slim.eq_9 v0 (Go.Code.refuse v1) (by nofun) (by nofun) (by nofun) (by nofun) (by nofun) (by nofun) (by nofun) (by nofun)) := (fun v0 v1 => @slim.eq_9 v0 (Go.Code.refuse v1) (by nofun) (by nofun) (by nofun) (by nofun) (by nofun) (by nofun) (by nofun) (by nofun))
theorem x206 : type_of% (@x18.eq_5 Go.Code.skip (by nofun) (by nofun) (by nofun) (by nofun)) := (@x18.eq_5 Go.Code.skip (by nofun) (by nofun) (by nofun) (by nofun))
theorem x20c : type_of% (fun v0 v1 v2 => @x18.eq_5 (Go.Code.region v0 v1 v2) (by nofun) (by nofun) (by nofun) (by nofun)) := (fun v0 v1 v2 => @x18.eq_5 (Go.Code.region v0 v1 v2) (by nofun) (by nofun) (by nofun) (by nofun))
theorem x20q : type_of% (fun v0 v1 v2 v3 => @x18.eq_5 (Go.Code.rangeFunc v0 v1 v2 v3) (by nofun) (by nofun) (by nofun) (by nofun)) := (fun v0 v1 v2 v3 => @x18.eq_5 (Go.Code.rangeFunc v0 v1 v2 v3) (by nofun) (by nofun) (by nofun) (by nofun))
theorem x22p : type_of% (fun v0 => @x18.eq_5 (Go.Code.exit v0) (by nofun) (by nofun) (by nofun) (by nofun)) := (fun v0 => @x18.eq_5 (Go.Code.exit v0) (by nofun) (by nofun) (by nofun) (by nofun))
theorem x1wb : type_of% (fun v0 => @x18.eq_5 (Go.Code.scope v0) (by nofun) (by nofun) (by nofun) (by nofun)) := (fun v0 => @x18.eq_5 (Go.Code.scope v0) (by nofun) (by nofun) (by nofun) (by nofun))
theorem x1uu : type_of% (fun v0 => @x18.eq_5 (Go.Code.label v0) (by nofun) (by nofun) (by nofun) (by nofun)) := (fun v0 => @x18.eq_5 (Go.Code.label v0) (by nofun) (by nofun) (by nofun) (by nofun))
theorem x1vp : type_of% (fun v0 => @x18.eq_5 (Go.Code.goto v0) (by nofun) (by nofun) (by nofun) (by nofun)) := (fun v0 => @x18.eq_5 (Go.Code.goto v0) (by nofun) (by nofun) (by nofun) (by nofun))
theorem x1y7 : type_of% (@x18.eq_5 Go.Code.ret (by nofun) (by nofun) (by nofun) (by nofun)) := (@x18.eq_5 Go.Code.ret (by nofun) (by nofun) (by nofun) (by nofun))
theorem x1v5 : type_of% (fun v0 => @x18.eq_5 (Go.Code.refuse v0) (by nofun) (by nofun) (by nofun) (by nofun)) := (fun v0 => @x18.eq_5 (Go.Code.refuse v0) (by nofun) (by nofun) (by nofun) (by nofun))
theorem SLM0 : type_of% (AI @Option.getD_some.{0} (AI @List.length_nil.{0} (AI @Nat.add_zero (AI @Nat.zero_add (AI @List.map_cons.{0,0} (AI @List.map_nil.{0,0} (AI @List.getElem?_cons_zero.{0} (AI @List.getElem?_cons_succ.{0} (AI @Option.bind_some.{0,0} (AI @Bool.false_eq_true (AI @if_false.{0} (AI @if_true.{0} (AI @List.length_cons.{0} (AI @List.replicate.eq_1.{0} (AI @List.replicate.eq_2.{0} (AI @List.cons_append.{0} (AI @List.nil_append.{0} (AI @List.append_nil.{0} (AI @List.getD_cons_zero.{0} (AI @List.getD_cons_succ.{0} (AI @x12.eq_1 (AI @x1f.eq_1 (AI @lpOf.eq_1 (AI @xn.eq_1 (AI @slim.eq_1 (AI @slim.eq_2 (AI @slim.eq_3 (AI @slim.eq_4 (AI @slim.eq_5 (AI @slim.eq_6 (AI @slim.eq_7 (AI @slim.eq_8 (AI @x21t (AI @x22o (AI @x212 (AI @x20g (AI @x21g (AI @x18.eq_1 (AI @x18.eq_2 @x18.eq_3))))))))))))))))))))))))))))))))))))))) :=
 ⟨@Option.getD_some.{0},@List.length_nil.{0},@Nat.add_zero,@Nat.zero_add,@List.map_cons.{0,0},@List.map_nil.{0,0},@List.getElem?_cons_zero.{0},@List.getElem?_cons_succ.{0},@Option.bind_some.{0,0},@Bool.false_eq_true,@if_false.{0},@if_true.{0},@List.length_cons.{0},@List.replicate.eq_1.{0},@List.replicate.eq_2.{0},@List.cons_append.{0},@List.nil_append.{0},@List.append_nil.{0},@List.getD_cons_zero.{0},@List.getD_cons_succ.{0},@x12.eq_1,@x1f.eq_1,@lpOf.eq_1,@xn.eq_1,@slim.eq_1,@slim.eq_2,@slim.eq_3,@slim.eq_4,@slim.eq_5,@slim.eq_6,@slim.eq_7,@slim.eq_8,@x21t,@x22o,@x212,@x20g,@x21g,@x18.eq_1,@x18.eq_2,@x18.eq_3⟩
theorem SLM1 : type_of% (AI @x18.eq_4 (AI @x206 (AI @x20c (AI @x20q (AI @x22p (AI @x1wb (AI @x1uu (AI @x1vp (AI @x1y7 (AI @x1v5 (AI @xqw.eq_1 (AI @xvt.eq_1 @xvt.eq_2)))))))))))) :=
 ⟨@x18.eq_4,@x206,@x20c,@x20q,@x22p,@x1wb,@x1uu,@x1vp,@x1y7,@x1v5,@xqw.eq_1,@xvt.eq_1,@xvt.eq_2⟩
theorem SLM : type_of% (AI @SLM0 @SLM1) :=
 ⟨@SLM0,@SLM1⟩
theorem LN : type_of% (AI @List.length_append.{0} (AI @List.length_cons.{0} (AI @List.length_nil.{0} (AI @List.length_set.{0} (AI @List.length_replicate.{0} (AI @List.length_map.{0,0} (AI @List.length_take.{0} @List.length_drop.{0}))))))) :=
 ⟨@List.length_append.{0},@List.length_cons.{0},@List.length_nil.{0},@List.length_set.{0},@List.length_replicate.{0},@List.length_map.{0,0},@List.length_take.{0},@List.length_drop.{0}⟩
theorem GT : type_of% (AI @List.getElem?_cons_zero.{0} @List.getElem?_cons_succ.{0}) :=
 ⟨@List.getElem?_cons_zero.{0},@List.getElem?_cons_succ.{0}⟩
end Ev
end Go.Proofs.Ytppdfjdfjfoddaa
