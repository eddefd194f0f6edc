/-
  How each operation goes, in the form in which the evaluator is walked.
-/
import Derived.Test.YtppdfjdfjfoddaaEvPrim
set_option linter.unusedSimpArgs false
set_option linter.unusedVariables false
namespace Go.Proofs.Ytppdfjdfjfoddaa
namespace Ev
section
variable {R : Type} {E : Env} {call : xq} {thaw : List Nat} {dst : Option Tmp} {s : List A} {h : H} {k : A → H → Option R}
structure Now (p : Prop) : Prop where
 it : p
structure Shut (p : Prop) : Prop where
 it : p
inductive Box (α : Type) where
 | mk (a : α)
 | no
def box {α : Type} (a : α) : Box α := .mk a
theorem x1tf {α : Type} {a : α} : box a = .mk a := rfl
theorem x1r1 {t : Nat} {q : A → Option R} : kv s (.tmp t) q = match box (s.getD t (.d .undef)) with | .no => none | .mk a => q a := rfl
theorem x1t6 {K : IntKind} {n : Int} {q : A → Option R} : kv s (.const (.int K n)) q = q (.d (.int K n)) := rfl
theorem x1ne {b : Bool} {q : A → Option R} : kv s (.const (.bool b)) q = q (.d (.bool b)) := rfl
theorem x1rq {b : ByteArray} {q : A → Option R} : kv s (.const (.string b)) q = match box b.data.toList with | .no => none | .mk l => q (.d (.str l)) := rfl
theorem x1n1 {q : A → Option R} : kv s (.const (.pointer none)) q = q (.d .nilp) := rfl
theorem x1md {q : A → Option R} : kv s (.const (.slice none 0 0)) q = q (.d .nils) := rfl
theorem x1ni {f : FuncId} {q : A → Option R} : kv s (.func f) q = q (.clo f []) := rfl
theorem x1pg {cs : Array Value} {q : A → Option R} : kv s (.const (.agg cs)) q = match xjl cs.toList with
  | some as => q (.agg as)
  | none => none := by
 unfold kv; simp only [x34,xtk]
 cases xjl cs.toList <;> rfl
theorem x1n4 {q : List A → Option R} : kvs s [] q = q [] := rfl
theorem x1iv {x : Operand} {xs : List Operand} {q : List A → Option R} : kvs s (x :: xs) q = kv s x fun a => kvs s xs fun as => q (a :: as) := by
 unfold kvs kv
 simp only [x1n]
 cases x34 s x with
 | none => rfl
 | some a => cases x1n s xs <;> rfl
theorem x17j {yes no : List A → Option R} : xhw none s yes no = yes s := rfl
theorem x16o {t : Nat} {w : Bool} {yes no : List A → Option R} : xhw (some (some t,w)) s yes no = match s.getD t .junk with
  | .d (.bool b) => if b = w then (match box (s.set t (.d (.bool w))) with | .no => none | .mk s => yes s) else (match box (s.set t (.d (.bool (!w)))) with | .no => none | .mk s => no s)
  | .d .undef => no s
  | _ => none := by
 simp only [xhw,List.getD_eq_getElem?_getD]
 cases s[t]? with
 | none => rfl
 | some a =>
  cases a with
  | d x => cases x <;> rfl
  | _ => rfl
theorem x1jl {x : Operand} : kOp E call thaw dst (.move x) s h k = kv s x fun a => k a h := by
 unfold kOp kvs kv
 simp only [opds,x1n]
 cases x34 s x <;> rfl
def kAsg (thaw : List Nat) (dst : Option Tmp) (h : H) (k : A → H → Option R) (a : A) : Option R :=
 match a with
 | .d .nils => match xpc thaw dst with
  | 0 => k (.d .nils) h
  | e + 1 => if e < 1000 then k (.sl h.length 0 0 0) (h ++ [.arr [] e 0]) else k (.sl h.length 0 0 0) (h ++ [.vec [] (e - 1000) 0])
 | a => k a h
theorem xy2 {t : Nat} : kOp E call thaw dst (.assign (.tmp t)) s h k = match box (s.getD t (.d .undef)) with | .no => none | .mk a => k a h := by
 unfold kOp kvs
 simp only [opds,x1n,x34,x1j,Bool.false_eq_true,if_false]
 rfl
theorem xuc {v : Value} : kOp E call thaw dst (.assign (.const v)) s h k = kv s (.const v) (kAsg thaw dst h k) := by
 unfold kOp kvs kv kAsg
 simp only [opds,x1n]
 cases x34 s (.const v) with
 | none => rfl
 | some a =>
  simp only [x1j,Bool.false_eq_true,if_false,evOp,one,x38,x56]
  cases a with
  | d x =>
   cases x with
   | nils => cases ht : xpc thaw dst with
    | zero => simp [ht]
    | succ e => by_cases he : e < 1000 <;> simp [ht,he]
   | _ => rfl
  | _ => rfl
theorem xw1 {f : FuncId} : kOp E call thaw dst (.assign (.func f)) s h k = k (.clo f []) h := by
 rfl
def kRet (r : Option (A × H)) (k : A → H → Option R) : Option R :=
 match r with
 | some (a,h') => k a h'
 | none => none
theorem x1mg {op : BinOp} {t : TypeId} {x y : Operand} {t2 : TypeId} : kOp E call thaw dst (.binOp op t x y t2) s h k = kv s x fun a => kv s y fun b => kRet (x2w E op t h a b) k := by
 unfold kOp kvs kv kRet
 simp only [opds,x1n]
 cases x34 s x with
 | none => rfl
 | some a => cases x34 s y <;> rfl
theorem x1r0 {op : UnOp} {t : TypeId} {x : Operand} : kOp E call thaw dst (.unOp op t x) s h k = kv s x fun a => kRet ((aUn op a).map fun r => (r,h)) k := by
 unfold kOp kvs kv kRet
 simp only [opds,x1n]
 cases x34 s x <;> rfl
theorem x1is {c x y : Operand} : kOp E call thaw dst (.pick c x y) s h k = kv s c fun b => kv s x fun a => kv s y fun a' => kRet (xxk h [b,a,a']) k := by
 unfold kOp kvs kv kRet
 simp only [opds,x1n]
 cases x34 s c with
 | none => rfl
 | some b => cases x34 s x with
  | none => rfl
  | some a => cases x34 s y <;> rfl
theorem x14u {x : Operand} : kOp E call thaw dst (.nilCheck x) s h k = kv s x fun a => kRet (x7l h a) k := by
 unfold kOp kvs kv kRet
 simp only [opds,x1n]
 cases x34 s x <;> rfl
theorem x1in {t u : TypeId} {x : Operand} : kOp E call thaw dst (.convert t u x) s h k = kv s x fun a => kRet (x4k E.P h t u a) k := by
 unfold kOp kvs kv kRet
 simp only [opds,x1n]
 cases x34 s x <;> rfl
theorem x1jv {t : TypeId} {x : Operand} : kOp E call thaw dst (.load t x) s h k = kv s x fun a => kRet ((xot E.P h t a).map fun v => (v,h)) k := by
 unfold kOp kvs kv kRet
 simp only [opds,x1n]
 cases x34 s x <;> rfl
theorem x1fu {t : TypeId} {x y : Operand} : kOp E call thaw dst (.store t x y) s h k = kv s x fun a => kv s y fun b => kRet ((xao E.P h t a b).map fun h' => (.d .undef,h')) k := by
 unfold kOp kvs kv kRet
 simp only [opds,x1n]
 cases x34 s x with
 | none => rfl
 | some a => cases x34 s y <;> rfl
theorem x1dw {t : TypeId} : kOp E call thaw dst (.alloc t) s h k = match box (x1g E.P t) with
  | .no => none
  | .mk none => none
  | .mk (some z) => kRet (aNew h z) k := by
 unfold kOp kvs kRet
 simp only [opds,x1n,x1j,Bool.false_eq_true,if_false,evOp,x56,box]
 cases x1g E.P t <;> rfl
theorem x1n2 {t : TypeId} {x : Operand} : kOp E call thaw dst (.box t x) s h k = kv s x fun a => kRet (aNew h a) k := by
 unfold kOp kvs kv kRet
 simp only [opds,x1n]
 cases x34 s x <;> rfl
theorem x1fw {t : TypeId} {ps : List (Nat × Operand)} : kOp E call thaw dst (.build t ps.toArray) s h k = match box (ps.map (·.2)) with
  | .no => none
  | .mk xs => kvs s xs fun vs => kRet ((x6l E.P t ((ps.map (·.1)).zip vs)).map fun a => (a,h)) k := by
 unfold kOp kRet
 rfl
theorem xxh {t : TypeId} {n : Nat} {ps : List (Nat × Operand)} : kOp E call thaw dst (.buildSlice t n ps.toArray) s h k = match box (ps.map (·.2)) with
  | .no => none
  | .mk xs => kvs s xs fun vs => kRet (if xoj thaw dst = true then xg4 E.P h t n ((ps.map (·.1)).zip vs) else xex E.P h t n ((ps.map (·.1)).zip vs)) k := by
 unfold kOp kRet
 rfl
theorem x12q {fn : Fn} {cap : List Operand} : kOp E call thaw dst (.makeFunc fn #[] cap.toArray) s h k = kvs s cap fun vs => kRet (xxc h fn true vs) k := by
 unfold kOp kRet
 rfl
theorem x107 {t : TypeId} {x y : Operand} : kOp E call thaw dst (.makeSlice t x y) s h k = kv s x fun a => kv s y fun b => kRet (x8w a fun l => x8w b fun c => if xoj thaw dst = true then xub E.P h t l c else x8s E.P h t l c) k := by
 unfold kOp kvs kv kRet
 simp only [opds,x1n]
 cases x34 s x with
 | none => rfl
 | some a => cases x34 s y <;> rfl
theorem x16r {t : TypeId} {x : Operand} : kOp E call thaw dst (.slice t x none none none) s h k = kvs s [x] fun vs => kRet (x8t E.P h t false false vs) k := rfl
theorem x168 {t : TypeId} {x lo : Operand} : kOp E call thaw dst (.slice t x (some lo) none none) s h k = kvs s [x,lo] fun vs => kRet (x8t E.P h t true false vs) k := rfl
theorem x17e {t : TypeId} {x hi : Operand} : kOp E call thaw dst (.slice t x none (some hi) none) s h k = kvs s [x,hi] fun vs => kRet (x8t E.P h t false true vs) k := rfl
theorem x15y {t : TypeId} {x lo hi : Operand} : kOp E call thaw dst (.slice t x (some lo) (some hi) none) s h k = kvs s [x,lo,hi] fun vs => kRet (x8t E.P h t true true vs) k := rfl
theorem x10f {t : TypeId} {x : Operand} {f : Nat} : kOp E call thaw dst (.fieldAddr t x f) s h k = kv s x fun a => kRet ((xw E.P t f).bind fun r => (xgq r.1 a).map fun r => (r,h)) k := by
 unfold kOp kvs kv kRet
 simp only [opds,x1n]
 cases x34 s x <;> rfl
theorem x1du {t : TypeId} {x : Operand} {f : Nat} : kOp E call thaw dst (.field t x f) s h k = kv s x fun a => kRet (xs5 E.P h t f a) k := by
 unfold kOp kvs kv kRet
 simp only [opds,x1n]
 cases x34 s x <;> rfl
theorem x105 {t : TypeId} {x y : Operand} : kOp E call thaw dst (.indexAddr t x y) s h k = kv s x fun a => kv s y fun b => kRet (x8w b fun i => (xdu E.P h t a i).map fun r => (r,h)) k := by
 unfold kOp kvs kv kRet
 simp only [opds,x1n]
 cases x34 s x with
 | none => rfl
 | some a => cases x34 s y <;> rfl
theorem x1fj {t : TypeId} {x y : Operand} : kOp E call thaw dst (.index t x y) s h k = kv s x fun a => kv s y fun b => kRet (x8w b fun i => (xym E.P t a i).map fun r => (r,h)) k := by
 unfold kOp kvs kv kRet
 simp only [opds,x1n]
 cases x34 s x with
 | none => rfl
 | some a => cases x34 s y <;> rfl
theorem x16v {t : TypeId} : kOp E call thaw dst (.makeMap t none) s h k = k (.mp h.length) (h ++ [.mp []]) := rfl
theorem x19i {t : TypeId} {x y : Operand} {ok : Bool} : kOp E call thaw dst (.lookup t x y ok) s h k = kv s x fun a => kv s y fun b => kRet (xxd E.P h t ok a b) k := by
 unfold kOp kvs kv kRet
 simp only [opds,x1n]
 cases x34 s x with
 | none => rfl
 | some a => cases x34 s y <;> rfl
theorem x10y {t : TypeId} {x y z : Operand} : kOp E call thaw dst (.mapUpdate t x y z) s h k = kv s x fun a => kv s y fun b => kv s z fun c => kRet (xri E.P h t a b c) k := by
 unfold kOp kvs kv kRet
 simp only [opds,x1n]
 cases x34 s x with
 | none => rfl
 | some a => cases x34 s y with
  | none => rfl
  | some b => cases x34 s z <;> rfl
theorem x16x {x : Operand} {i : Nat} : kOp E call thaw dst (.extract x i) s h k = kv s x fun a => kRet (xjz h i a) k := by
 unfold kOp kvs kv kRet
 simp only [opds,x1n]
 cases x34 s x <;> rfl
theorem x17n {b : Builtin} {args : List Operand} {tys : List TypeId} : kOp E call thaw dst (.call ⟨.builtin b,args.toArray,tys.toArray⟩) s h k = kvs s args fun vs => kRet (x2q E.P h b tys vs) k := by
 unfold kOp kRet
 rfl
theorem x3o {op : Op} {q : A → H → Foot → Option R} (hp : Now (x27 op = true ∧ x1j op = false)) : kOpD E call thaw dst op s h q = kOp E call thaw dst op s h fun a _ => q a h {} := by
 obtain ⟨hp,hc⟩ := hp.it
 unfold kOpD kOp kvs
 rw [hp,hc]
 cases x1n s (opds op) with
 | none => rfl
 | some vs =>
  simp only [if_true,Bool.false_eq_true,if_false]
def memD (E : Env) (call : xq) (thaw : List Nat) (dst : Option Tmp) (op : Op) (h : H) (vs : List A) : Option (A × H × Foot) := match box (x4 x5 h (idsL vs) []) with
 | .no => none
 | .mk ord => match box (evOp E call thaw (pack h ord) (x56 dst op) (x7 (xa ord) vs)) with
  | .mk (some (a,h1)) => if ord.length ≤ h1.length ∧ closed h ord (idsL vs) = true then
    (if (x4e E op vs && h1.length - ord.length == 0) = true then some (mapA (back ord h.length h1.length) a,h,{ ids := ord,ro := true })
    else some (mapA (back ord h.length h1.length) a,x18 (back ord h.length h1.length) h ord h1,{ ids := ord ++ List.range' h.length (h1.length - ord.length),ro := false,wr := wrOf E op vs ord ++ List.range' h.length (h1.length - ord.length) }))
   else none
  | _ => none
theorem x59 {op : Op} {q : A → H → Foot → Option R} (hp : Now (x27 op = false ∧ xad op = false)) : kOpD E call thaw dst op s h q = match box (opds op) with | .no => none | .mk xs => kvs s xs fun vs => match box (memD E call thaw dst op h vs) with
  | .mk (some (a,h',c)) => q a h' c
  | _ => none := by
 simp only [box]
 unfold kOpD kvs
 rw [hp.it.1,hp.it.2]
 cases x1n s (opds op) with
 | none => rfl
 | some vs =>
  simp only [Bool.false_eq_true,if_false,x8g,memD,box]
  cases evOp E call thaw (pack h (x4 x5 h (idsL vs) [])) (x56 dst op) (x7 (xa (x4 x5 h (idsL vs) [])) vs) with
  | none => rfl
  | some r =>
   obtain ⟨a,h1⟩ := r
   by_cases hc : (x4 x5 h (idsL vs) []).length ≤ h1.length ∧ closed h (x4 x5 h (idsL vs) []) (idsL vs) = true
   ·simp only [if_pos hc]
    by_cases hr : (x4e E op vs && h1.length - (x4 x5 h (idsL vs) []).length == 0) = true
    ·simp only [if_pos hr]
    ·simp only [if_neg hr]
   ·simp only [if_neg hc]
theorem xou {op : Op} {q : A → H → Foot → Option R} (hp : Now (x27 op = false ∧ xad op = true ∧ x1j op = false)) : kOpD E call thaw dst op s h q = kvs s (opds op) fun vs => kOp E call thaw dst op s h fun a _ => q a h { ids := ids0 vs,ro := true } := by
 unfold kOpD kOp kvs
 rw [hp.it.1,hp.it.2.1,hp.it.2.2]
 cases x1n s (opds op) with
 | none => rfl
 | some vs => simp only [Bool.false_eq_true,if_false,if_true]
theorem xtz {x : Operand} {xs : List Operand} {op : Op} {q : A → H → Foot → Option R} (hx : opds op = x :: xs) : (kvs s (opds op) fun vs => kOp E call thaw dst op s h fun a _ => q a h { ids := ids0 vs,ro := true }) = kv s x fun b => kOp E call thaw dst op s h fun a _ => q a h { ids := idsA b,ro := true } := by
 unfold kOp kv
 rw [hx]
 unfold kvs
 simp only [x1n]
 cases x34 s x with
 | none => rfl
 | some b =>
  cases x1n s xs with
  | none => rfl
  | some bs => rfl
theorem x1g6 {t : TypeId} {x : Operand} {q : A → H → Foot → Option R} : kOpD E call thaw dst (.load t x) s h q = kv s x fun b => kOp E call thaw dst (.load t x) s h fun a _ => q a h { ids := idsA b,ro := true } := (xou ⟨rfl,rfl,rfl⟩).trans (xtz rfl)
theorem x163 {t : TypeId} {x y : Operand} {ok : Bool} {q : A → H → Foot → Option R} : kOpD E call thaw dst (.lookup t x y ok) s h q = kv s x fun b => kOp E call thaw dst (.lookup t x y ok) s h fun a _ => q a h { ids := idsA b,ro := true } := (xou ⟨rfl,rfl,rfl⟩).trans (xtz rfl)
theorem x138 {t : TypeId} {q : A → H → Foot → Option R} : type_of% (x59 (E := E) (call := call) (thaw := thaw) (dst := dst) (s := s) (h := h) (op := .makeMap t none) (q := q) ⟨rfl,rfl⟩) := x59 ⟨rfl,rfl⟩
theorem xxw {t : TypeId} {x y z : Operand} {q : A → H → Foot → Option R} : type_of% (x59 (E := E) (call := call) (thaw := thaw) (dst := dst) (s := s) (h := h) (op := .mapUpdate t x y z) (q := q) ⟨rfl,rfl⟩) := x59 ⟨rfl,rfl⟩
theorem x196 {t : TypeId} {x y : Operand} {q : A → H → Foot → Option R} : type_of% (x59 (E := E) (call := call) (thaw := thaw) (dst := dst) (s := s) (h := h) (op := .store t x y) (q := q) ⟨rfl,rfl⟩) := x59 ⟨rfl,rfl⟩
theorem x177 {x : Operand} {q : A → H → Foot → Option R} : type_of% (x59 (E := E) (call := call) (thaw := thaw) (dst := dst) (s := s) (h := h) (op := .assign x) (q := q) ⟨rfl,rfl⟩) := x59 ⟨rfl,rfl⟩
theorem x1au {t : TypeId} {q : A → H → Foot → Option R} : type_of% (x59 (E := E) (call := call) (thaw := thaw) (dst := dst) (s := s) (h := h) (op := .alloc t) (q := q) ⟨rfl,rfl⟩) := x59 ⟨rfl,rfl⟩
theorem x1jb {t : TypeId} {x : Operand} {q : A → H → Foot → Option R} : type_of% (x59 (E := E) (call := call) (thaw := thaw) (dst := dst) (s := s) (h := h) (op := .box t x) (q := q) ⟨rfl,rfl⟩) := x59 ⟨rfl,rfl⟩
theorem xw3 {t : TypeId} {n : Nat} {ps : List (Nat × Operand)} {q : A → H → Foot → Option R} : type_of% (x59 (E := E) (call := call) (thaw := thaw) (dst := dst) (s := s) (h := h) (op := .buildSlice t n ps.toArray) (q := q) ⟨rfl,rfl⟩) := x59 ⟨rfl,rfl⟩
theorem x1gn {t u : TypeId} {x : Operand} {q : A → H → Foot → Option R} : type_of% (x59 (E := E) (call := call) (thaw := thaw) (dst := dst) (s := s) (h := h) (op := .convert t u x) (q := q) ⟨rfl,rfl⟩) := x59 ⟨rfl,rfl⟩
theorem xxu {t : TypeId} {x y : Operand} {q : A → H → Foot → Option R} : type_of% (x59 (E := E) (call := call) (thaw := thaw) (dst := dst) (s := s) (h := h) (op := .makeSlice t x y) (q := q) ⟨rfl,rfl⟩) := x59 ⟨rfl,rfl⟩
theorem x19n {t : TypeId} {x : Operand} {lo hi mx : Option Operand} {q : A → H → Foot → Option R} : kOpD E call thaw dst (.slice t x lo hi mx) s h q = kv s x fun b => kOp E call thaw dst (.slice t x lo hi mx) s h fun a _ => q a h { ids := idsA b,ro := true } := (xou ⟨rfl,rfl,rfl⟩).trans (xtz rfl)
theorem xy3 {t : TypeId} {x y : Operand} {q : A → H → Foot → Option R} : kOpD E call thaw dst (.indexAddr t x y) s h q = kv s x fun b => kOp E call thaw dst (.indexAddr t x y) s h fun a _ => q a h { ids := idsA b,ro := true } := (xou ⟨rfl,rfl,rfl⟩).trans (xtz rfl)
theorem x172 {args tys : Array _} {q : A → H → Foot → Option R} : type_of% (x59 (E := E) (call := call) (thaw := thaw) (dst := dst) (s := s) (h := h) (op := .call ⟨.builtin .append,args,tys⟩) (q := q) ⟨rfl,rfl⟩) := x59 ⟨rfl,rfl⟩
theorem x1i4 {x : Operand} {xs : List Operand} {tys : Array _} {q : A → H → Foot → Option R} : kOpD E call thaw dst (.call ⟨.builtin .len,(x :: xs).toArray,tys⟩) s h q = kv s x fun b => kOp E call thaw dst (.call ⟨.builtin .len,(x :: xs).toArray,tys⟩) s h fun a _ => q a h { ids := idsA b,ro := true } := (xou ⟨rfl,rfl,rfl⟩).trans (xtz rfl)
theorem x1fz {x : Operand} {q : A → H → Foot → Option R} : type_of% (x3o (E := E) (call := call) (thaw := thaw) (dst := dst) (s := s) (h := h) (op := .move x) (q := q) ⟨rfl,rfl⟩) := x3o ⟨rfl,rfl⟩
theorem x1gl {c x y : Operand} {q : A → H → Foot → Option R} : type_of% (x3o (E := E) (call := call) (thaw := thaw) (dst := dst) (s := s) (h := h) (op := .pick c x y) (q := q) ⟨rfl,rfl⟩) := x3o ⟨rfl,rfl⟩
theorem x10p {x : Operand} {q : A → H → Foot → Option R} : type_of% (x3o (E := E) (call := call) (thaw := thaw) (dst := dst) (s := s) (h := h) (op := .nilCheck x) (q := q) ⟨rfl,rfl⟩) := x3o ⟨rfl,rfl⟩
theorem x1jd {op : BinOp} {t : TypeId} {x y : Operand} {t2 : TypeId} {q : A → H → Foot → Option R} : type_of% (x3o (E := E) (call := call) (thaw := thaw) (dst := dst) (s := s) (h := h) (op := .binOp op t x y t2) (q := q) ⟨rfl,rfl⟩) := x3o ⟨rfl,rfl⟩
theorem x1mu {op : UnOp} {t : TypeId} {x : Operand} {q : A → H → Foot → Option R} : type_of% (x3o (E := E) (call := call) (thaw := thaw) (dst := dst) (s := s) (h := h) (op := .unOp op t x) (q := q) ⟨rfl,rfl⟩) := x3o ⟨rfl,rfl⟩
theorem x118 {fn : Fn} {first cap : Array Operand} {q : A → H → Foot → Option R} : type_of% (x3o (E := E) (call := call) (thaw := thaw) (dst := dst) (s := s) (h := h) (op := .makeFunc fn first cap) (q := q) ⟨rfl,rfl⟩) := x3o ⟨rfl,rfl⟩
theorem xya {t : TypeId} {x : Operand} {f : Nat} {q : A → H → Foot → Option R} : type_of% (x3o (E := E) (call := call) (thaw := thaw) (dst := dst) (s := s) (h := h) (op := .fieldAddr t x f) (q := q) ⟨rfl,rfl⟩) := x3o ⟨rfl,rfl⟩
theorem x1bv {t : TypeId} {x : Operand} {f : Nat} {q : A → H → Foot → Option R} : type_of% (x3o (E := E) (call := call) (thaw := thaw) (dst := dst) (s := s) (h := h) (op := .field t x f) (q := q) ⟨rfl,rfl⟩) := x3o ⟨rfl,rfl⟩
theorem x1c1 {t : TypeId} {x y : Operand} {q : A → H → Foot → Option R} : type_of% (x3o (E := E) (call := call) (thaw := thaw) (dst := dst) (s := s) (h := h) (op := .index t x y) (q := q) ⟨rfl,rfl⟩) := x3o ⟨rfl,rfl⟩
theorem x13i {x : Operand} {i : Nat} {q : A → H → Foot → Option R} : type_of% (x3o (E := E) (call := call) (thaw := thaw) (dst := dst) (s := s) (h := h) (op := .extract x i) (q := q) ⟨rfl,rfl⟩) := x3o ⟨rfl,rfl⟩
theorem x19h {t : TypeId} {ps : Array (Nat × Operand)} {q : A → H → Foot → Option R} : type_of% (x3o (E := E) (call := call) (thaw := thaw) (dst := dst) (s := s) (h := h) (op := .build t ps) (q := q) ⟨rfl,rfl⟩) := x3o ⟨rfl,rfl⟩
def x1j0 (a b : Foot) : Bool := (!a.ro && (!b.ids.isEmpty && a.wr.any b.ids.contains)) || (!b.ro && (!a.ids.isEmpty && b.wr.any a.ids.contains))
theorem x1w5 {l : List Nat} : l.any (([] : List Nat)).contains = false := by
 induction l with
 | nil => rfl
 | cons a l ih => simp [ih]
theorem x1fl (a b : Foot) : x1j0 a b = xau a b := by
 obtain ⟨ia,ra,wa⟩ := a
 obtain ⟨ib,rb,wb⟩ := b
 unfold x1j0 xau
 cases ia <;> cases ib <;> simp
def x64 (ops : List Oper) (cs : List Foot) : Bool :=
 let b := xrg ops []
 (List.range cs.length).all fun j => (List.range j).all fun i => (b.getD j 0).testBit i || !x1j0 (cs.getD i {}) (cs.getD j {})
theorem x1t5 {src : List Oper} {cs : List Foot} (h : xds src cs = true) : x64 src cs = true := by
 unfold x64
 simp only [x1fl]
 exact h
theorem x19r {src : List Oper} {cs : List Foot} {x : Option R} (hc : Shut (x64 src cs = true)) : (if xds src cs = true then x else none) = x := if_pos (by
 have := hc.it
 unfold x64 at this
 simp only [x1fl] at this
 exact this)
theorem x1jz {q : List A → H → Option R} : kOps E call thaw [] s h q = q s h := rfl
theorem x1e2 {op : Op} {g : Option (Option Tmp × Bool)} {os : List SO} {q : List A → H → Option R} : kOps E call thaw (⟨dst,op,g⟩ :: os) s h q = xhw g s
  (fun s => kOp E call thaw dst op s h fun a h' => match box (aPut s dst a) with | .no => none | .mk s' => kOps E call thaw os s' h' q)
  (fun s => match box (aPut s dst (.d .undef)) with | .no => none | .mk s' => kOps E call thaw os s' h q) := rfl
theorem x1f7 {cs : List Foot} {q : List A → H → List Foot → Option R} : xj9 E call thaw [] s h cs q = q s h cs := rfl
theorem x1b5 {op : Op} {g : Option (Option Tmp × Bool)} {os : List SO} {cs : List Foot} {q : List A → H → List Foot → Option R} : xj9 E call thaw (⟨dst,op,g⟩ :: os) s h cs q = xhw g s
  (fun s => kOpD E call thaw dst op s h fun a h' c => match box (aPut s dst a) with | .no => none | .mk s' => xj9 E call thaw os s' h' (cs ++ [c]) q)
  (fun s => match box (aPut s dst (.d .undef)) with | .no => none | .mk s' => xj9 E call thaw os s' h (cs ++ [{}]) q) := rfl
section
variable {L nf : Nat} {live : List Bool} {lp : Nat → Code} {q : Exit → List A → H → Option R}
theorem x19z : xf E call L nf thaw live lp .skip s h q = q .normal s h := rfl
theorem x1ev {l : List SO} : xf E call L nf thaw live lp (.ops l) s h q = kOps E call thaw l s h fun s h => q .normal s h := rfl
theorem x17c {l : List SO} {src : Array Oper} : xf E call L nf thaw live lp (.drawn l src) s h q = xj9 E call thaw l s h [] fun s h cs => if xds src.toList cs = true then q .normal s h else none := rfl
theorem x1fo {a b : SC} : xf E call L nf thaw live lp (.seq a b) s h q = xf E call L nf thaw live lp a s h fun e s h => match e with
  | .normal => xf E call L nf thaw live lp b s h q
  | e => q e s h := rfl
theorem x1co {c : Operand} {x y : SC} : xf E call L nf thaw live lp (.cond c x y) s h q = kv s c fun a => match a with
  | .d (.bool b) => if b = true then xf E call L nf thaw live lp x s h q else xf E call L nf thaw live lp y s h q
  | _ => none := rfl
theorem x178 {id : Nat} {c : SC} : xf E call L nf thaw live lp (.block id c) s h q = xf E call L nf thaw live lp c s h fun e s h => match e with
  | .exit i => if i = id then q .normal s h else q (.exit i) s h
  | e => q e s h := rfl
theorem x1c4 {i : Nat} : xf E call L nf thaw live lp (.loop i) s h q = match box (xcr live s) with
  | .no => none
  | .mk m => match box (gc nf m s h) with
   | .mk (s',h') => xg E call L nf thaw live (lp i) m L s' h' q
   | .no => none := rfl
theorem x1am {id : Nat} : xf E call L nf thaw live lp (.exit id) s h q = q (.exit id) s h := rfl
theorem x1e1 : xf E call L nf thaw live lp .ret s h q = q .ret s h := rfl
theorem x12s {c : Code} {m : List Bool} {n : Nat} : x2d E call L nf thaw live c m n q .normal s h = match box (gc nf m s h) with
  | .mk (s',h') => xg E call L nf thaw live c m n s' h' q
  | .no => none := rfl
theorem x1cj {c : Code} {m : List Bool} {n i : Nat} : x2d E call L nf thaw live c m n q (.exit i) s h = match box (gc nf m s h) with
  | .mk (s',h') => q (.exit i) s' h'
  | .no => none := rfl
theorem x1fq {c : Code} {m : List Bool} {n : Nat} : x2d E call L nf thaw live c m n q .ret s h = match box (gc nf m s h) with
  | .mk (s',h') => q .ret s' h'
  | .no => none := rfl
end
def xe (E : Env) (call : xq) (h : H) (f : FuncId) (args : List A) (k : A → H → Option R) : Option R :=
 match x36 call E.hint (pack h (x4 x5 h (idsL args) [])) f (x7 (xa (x4 x5 h (idsL args) [])) args) with
 | some (a,h1) =>
  if (x4 x5 h (idsL args) []).length ≤ h1.length ∧ closed h (x4 x5 h (idsL args) []) (idsL args) = true then
   k (mapA (back (x4 x5 h (idsL args) []) h.length h1.length) a) (x18 (back (x4 x5 h (idsL args) []) h.length h1.length) h (x4 x5 h (idsL args) []) h1)
  else none
 | none => none
theorem x1vv {f : FuncId} {args : List Operand} {tys : Array TypeId} : kOp E call thaw dst (.call ⟨.value (.func f),args.toArray,tys⟩) s h k = kvs s args fun vs => xe E call h f vs k := by
 unfold kOp kvs xe
 simp only [opds,x1n,x34]
 cases x1n s args with
 | none => rfl
 | some vs =>
  simp only [x1j,if_true,x8g,idsL,idsA,List.nil_append,x7,mapA,evOp,x49,x6z,x56,List.append_nil]
  cases x36 call E.hint (pack h (x4 x5 h (idsL vs) [])) f (x7 (xa (x4 x5 h (idsL vs) [])) vs) with
  | none => rfl
  | some r =>
   obtain ⟨a,h1⟩ := r
   by_cases c1 : (x4 x5 h (idsL vs) []).length ≤ h1.length <;> by_cases c2 : closed h (x4 x5 h (idsL vs) []) (idsL vs) = true <;> simp [c1,c2]
theorem x1fm {f : FuncId} {args : List Operand} {tys : Array TypeId} : kOp E call thaw dst (.call ⟨.value (.func f),args.toArray,tys⟩) s h k = kvs s args fun vs => xe E call h f vs fun a h' => match box h' with | .no => none | .mk h'' => k a h'' := by
 rw [x1vv]
 rfl
def xlu (E : Env) (call : xq) (h : H) (f : FuncId) (caps args : List A) (k : A → H → Option R) : Option R :=
 match x36 call E.hint (pack h (x4 x5 h (idsL caps ++ idsL args) [])) f (x7 (xa (x4 x5 h (idsL caps ++ idsL args) [])) args ++ x7 (xa (x4 x5 h (idsL caps ++ idsL args) [])) caps) with
 | some (a,h1) =>
  if (x4 x5 h (idsL caps ++ idsL args) []).length ≤ h1.length ∧ closed h (x4 x5 h (idsL caps ++ idsL args) []) (idsL caps ++ idsL args) = true then
   k (mapA (back (x4 x5 h (idsL caps ++ idsL args) []) h.length h1.length) a) (x18 (back (x4 x5 h (idsL caps ++ idsL args) []) h.length h1.length) h (x4 x5 h (idsL caps ++ idsL args) []) h1)
  else none
 | none => none
def xdb (E : Env) (call : xq) (h : H) (g : A) (args : List A) (k : A → H → Option R) : Option R :=
 match g with
 | .d (.fn f caps) => xe E call h f (args ++ caps.map .d) k
 | .clo f caps => xlu E call h f caps args k
 | _ => none
theorem x1d : ∀ (as bs : List A),idsL (as ++ bs) = idsL as ++ idsL bs
 | [],bs => by simp [idsL]
 | a :: as,bs => by simp [idsL,x1d as bs]
theorem x1jo : ∀ (ds : List D),idsL (ds.map .d) = []
 | [] => by simp [idsL]
 | d :: ds => by simp [idsL,idsA,x1jo ds]
theorem x3v {f : Nat → Option Nat} : ∀ (as bs : List A),x7 f (as ++ bs) = x7 f as ++ x7 f bs
 | [],bs => by simp [x7]
 | a :: as,bs => by simp [x7,x3v as bs]
theorem x1d6 {f : Nat → Option Nat} : ∀ (ds : List D),x7 f (ds.map .d) = ds.map .d
 | [] => by simp [x7]
 | d :: ds => by simp [x7,mapA,x1d6 ds]
theorem x1qj {g : A} {vs : List A} {tys : Array TypeId} {x : Operand} {args : Array Operand} : (match x8g E call thaw h (x56 dst (.call ⟨.value x,args,tys⟩)) (g :: vs) with
   | some (a,h',_) => k a h'
   | none => none) = xdb E call h g vs k := by
 unfold x8g
 simp only [evOp,x49,x56,x7]
 cases g with
 | d y =>
  cases y with
  | fn f caps =>
   simp only [xdb,xe,mapA,x6z,idsL,idsA,List.nil_append,x1d,x1jo,List.append_nil,x3v,x1d6]
   cases x36 call E.hint (pack h (x4 x5 h (idsL vs) [])) f (x7 (xa (x4 x5 h (idsL vs) [])) vs ++ caps.map .d) with
   | none => rfl
   | some r =>
    obtain ⟨a,h1⟩ := r
    by_cases c1 : (x4 x5 h (idsL vs) []).length ≤ h1.length <;> by_cases c2 : closed h (x4 x5 h (idsL vs) []) (idsL vs) = true <;> simp [c1,c2]
  | _ => simp only [xdb,mapA,x6z]
 | clo f caps =>
  simp only [xdb,xlu,mapA,x6z,idsL,idsA]
  cases x36 call E.hint (pack h (x4 x5 h (idsL caps ++ idsL vs) [])) f (x7 (xa (x4 x5 h (idsL caps ++ idsL vs) [])) vs ++ x7 (xa (x4 x5 h (idsL caps ++ idsL vs) [])) caps) with
  | none => rfl
  | some r =>
   obtain ⟨a,h1⟩ := r
   by_cases c1 : (x4 x5 h (idsL caps ++ idsL vs) []).length ≤ h1.length <;> by_cases c2 : closed h (x4 x5 h (idsL caps ++ idsL vs) []) (idsL caps ++ idsL vs) = true <;> simp [c1,c2]
 | sl id gen off len =>
  simp only [xdb,mapA]
  cases xa (x4 x5 h (idsL (A.sl id gen off len :: vs)) []) id <;> rfl
 | ptr id gen off =>
  simp only [xdb,mapA]
  cases xa (x4 x5 h (idsL (A.ptr id gen off :: vs)) []) id <;> rfl
 | mp id =>
  simp only [xdb,mapA]
  cases xa (x4 x5 h (idsL (A.mp id :: vs)) []) id <;> rfl
 | agg cs => simp only [xdb,mapA,x6z]
 | tup cs => simp only [xdb,mapA,x6z]
 | junk => simp only [xdb,mapA,x6z]
theorem x1f3 {t : Nat} {args : List Operand} {tys : Array TypeId} : kOp E call thaw dst (.call ⟨.value (.tmp t),args.toArray,tys⟩) s h k = match box (s.getD t (.d .undef)) with
  | .no => none
  | .mk g => kvs s args fun vs => xdb E call h g vs k := by
 unfold kOp kvs
 simp only [opds,x1n,x34,box]
 cases x1n s args with
 | none => rfl
 | some vs => simp only [x1j,if_true]; exact x1qj
theorem x1ew {f : FuncId} {caps : List D} {vs : List A} : xdb E call h (.d (.fn f caps)) vs k = match box (vs ++ caps.map .d) with | .no => none | .mk as' => xe E call h f as' k := rfl
theorem x1a7 {f : FuncId} {caps vs : List A} : xdb E call h (.clo f caps) vs k = xlu E call h f caps vs k := rfl
theorem x1b7 {f : FuncId} {vs : List A} : xlu E call h f [] vs k = xe E call h f vs k := by
 unfold xlu xe
 simp only [idsL,List.nil_append,x7,List.append_nil]
 rfl
theorem x18s {h : H} {ids : List Nat} {h1 : H} {ord : List Nat} : ∀ (ord : List Nat) (h h1 : H) (f : Nat → Option Nat),ord.length ≤ h1.length → (x18 f h ord h1).length = h.length + (h1.length - ord.length)
 | [],h,h1,f,_ => by simp [x18]
 | i :: ord,h,[],f,hl => by simp at hl
 | i :: ord,h,o :: h1,f,hl => by
  simp only [x18,x18s (h := h) (ids := ids) (h1 := h1) (ord := ord) ord _ h1 f (by simpa using hl),List.length_set,List.length_cons]
  omega
def wrC (E : Env) (f : FuncId) (ord : List Nat) : List Nat := if (E.hint f).mode == 3 then [] else ord
def xwg (E : Env) (f : FuncId) (h h' : H) (ord : List Nat) : Option (H × Foot) := if ((E.hint f).mode == 1 && h'.length - h.length == 0) = true then some (h,{ ids := ord,ro := true }) else some (h',{ ids := ord ++ List.range' h.length (h'.length - h.length),ro := false,wr := wrC E f ord ++ List.range' h.length (h'.length - h.length) })
theorem x1oa {f : FuncId} {args : List Operand} {tys : Array TypeId} {q : A → H → Foot → Option R} : kOpD E call thaw dst (.call ⟨.value (.func f),args.toArray,tys⟩) s h q = kvs s args fun vs => match box (x4 x5 h (idsL vs) []) with
  | .no => none
  | .mk ord => xe E call h f vs fun a h' => if ((E.hint f).mode == 1 && h'.length - h.length == 0) = true then q a h { ids := ord,ro := true } else q a h' { ids := ord ++ List.range' h.length (h'.length - h.length),ro := false,wr := wrC E f ord ++ List.range' h.length (h'.length - h.length) } := by
 unfold kOpD kvs xe
 simp only [opds,x1n,x34,box]
 cases x1n s args with
 | none => rfl
 | some vs =>
  simp only [x27,xad,Bool.false_eq_true,if_false,x8g,idsL,idsA,List.nil_append,x7,mapA,evOp,x49,x6z,x56,List.append_nil,x4e]
  cases x36 call E.hint (pack h (x4 x5 h (idsL vs) [])) f (x7 (xa (x4 x5 h (idsL vs) [])) vs) with
  | none => rfl
  | some r =>
   obtain ⟨a,h1⟩ := r
   by_cases c1 : (x4 x5 h (idsL vs) []).length ≤ h1.length
   ·by_cases c2 : closed h (x4 x5 h (idsL vs) []) (idsL vs) = true
    ·have e := x18s (h := h) (ids := idsL vs) (h1 := h1) (ord := []) (x4 x5 h (idsL vs) []) h h1 (back (x4 x5 h (idsL vs) []) h.length h1.length) c1
     have e2 : (x18 (back (x4 x5 h (idsL vs) []) h.length h1.length) h (x4 x5 h (idsL vs) []) h1).length - h.length = h1.length - (x4 x5 h (idsL vs) []).length := by omega
     simp only [c1,c2,and_self,if_true,e2]
     first | done | rfl | (by_cases c3 : ((E.hint f).mode == 1 && h1.length - (x4 x5 h (idsL vs) []).length == 0) = true <;> simp [c3])
    ·simp only [c2,and_false,if_false,Bool.false_eq_true]
   ·simp only [c1,false_and,if_false]
theorem x143 {f : FuncId} {args : List Operand} {tys : Array TypeId} {q : A → H → Foot → Option R} : kOpD E call thaw dst (.call ⟨.value (.func f),args.toArray,tys⟩) s h q = kvs s args fun vs => match box (x4 x5 h (idsL vs) []) with
  | .no => none
  | .mk ord => xe E call h f vs fun a h' => match box (xwg E f h h' ord) with | .mk (some (h'',c)) => q a h'' c | _ => none := by
 rw [x1oa]
 congr 1
 funext vs
 simp only [box]
 congr 1
 funext a h'
 unfold xwg
 by_cases hc : ((E.hint f).mode == 1 && h'.length - h.length == 0) = true
 ·simp only [if_pos hc]
 ·simp only [if_neg hc]
theorem x1m2 {t : Nat} {args : List Operand} {tys : Array TypeId} {q : A → H → Foot → Option R} {f : FuncId} {caps : List D} (hg : Now (s.getD t (.d .undef) = .d (.fn f caps))) : kOpD E call thaw dst (.call ⟨.value (.tmp t),args.toArray,tys⟩) s h q = kvs s args fun vs => match box (x4 x5 h (idsL vs) []) with
  | .no => none
  | .mk ord => xe E call h f (vs ++ caps.map .d) fun a h' => if ((E.hint f).mode == 1 && h'.length - h.length == 0) = true then q a h { ids := ord,ro := true } else q a h' { ids := ord ++ List.range' h.length (h'.length - h.length),ro := false,wr := wrC E f ord ++ List.range' h.length (h'.length - h.length) } := by
 have hg := hg.it
 unfold kOpD kvs xe
 simp only [opds,x1n,x34,box,hg]
 cases x1n s args with
 | none => rfl
 | some vs =>
  simp only [x27,xad,Bool.false_eq_true,if_false,x8g,idsL,idsA,List.nil_append,x7,mapA,evOp,x49,x6z,x56,List.append_nil,x4e,x1d,x1jo,x3v,x1d6]
  cases x36 call E.hint (pack h (x4 x5 h (idsL vs) [])) f (x7 (xa (x4 x5 h (idsL vs) [])) vs ++ caps.map .d) with
  | none => rfl
  | some r =>
   obtain ⟨a,h1⟩ := r
   by_cases c1 : (x4 x5 h (idsL vs) []).length ≤ h1.length
   ·by_cases c2 : closed h (x4 x5 h (idsL vs) []) (idsL vs) = true
    ·have e := x18s (h := h) (ids := idsL vs) (h1 := h1) (ord := []) (x4 x5 h (idsL vs) []) h h1 (back (x4 x5 h (idsL vs) []) h.length h1.length) c1
     have e2 : (x18 (back (x4 x5 h (idsL vs) []) h.length h1.length) h (x4 x5 h (idsL vs) []) h1).length - h.length = h1.length - (x4 x5 h (idsL vs) []).length := by omega
     simp only [c1,c2,and_self,if_true,e2]
     first | done | rfl | (by_cases c3 : ((E.hint f).mode == 1 && h1.length - (x4 x5 h (idsL vs) []).length == 0) = true <;> simp [c3])
    ·simp only [c2,and_false,if_false,Bool.false_eq_true]
   ·simp only [c1,false_and,if_false]
def x223 (E : Env) (call : xq) (thaw : List Nat) (dst : Option Tmp) (op : Op) (s : List A) (h : H) (q : A → H → Foot → Option R) : Option R := kOpD E call thaw dst op s h q
theorem x1b2 {t : Nat} {args : List Operand} {tys : Array TypeId} {q : A → H → Foot → Option R} : kOpD E call thaw dst (.call ⟨.value (.tmp t),args.toArray,tys⟩) s h q = match box (s.getD t (.d .undef)) with
  | .mk (.d (.fn f caps)) => kvs s args fun vs => match box (x4 x5 h (idsL vs) []) with
   | .no => none
   | .mk ord => match box (vs ++ caps.map .d) with | .no => none | .mk as' => xe E call h f as' fun a h' => match box (xwg E f h h' ord) with | .mk (some (h'',c)) => q a h'' c | _ => none
  | .mk (.clo f []) => kvs s args fun vs => match box (x4 x5 h (idsL vs) []) with
   | .no => none
   | .mk ord => xe E call h f vs fun a h' => match box (xwg E f h h' ord) with | .mk (some (h'',c)) => q a h'' c | _ => none
  | _ => x223 E call thaw dst (.call ⟨.value (.tmp t),args.toArray,tys⟩) s h q := by
 have key := fun (f : FuncId) (caps : List D) hg => x1m2 (E := E) (call := call) (thaw := thaw) (dst := dst) (s := s) (h := h) (t := t) (args := args) (tys := tys) (q := q) (f := f) (caps := caps) hg
 have k2 : ∀ f,s.getD t (.d .undef) = .clo f [] → kOpD E call thaw dst (.call ⟨.value (.tmp t),args.toArray,tys⟩) s h q = kOpD E call thaw dst (.call ⟨.value (.func f),args.toArray,tys⟩) s h q := by
  intro f hg
  unfold kOpD kvs
  simp only [opds,x1n,x34,hg]
  cases x1n s args <;> rfl
 have fold : ∀ (f : FuncId) (h h' : H) (ord : List Nat) (a : A),(if ((E.hint f).mode == 1 && h'.length - h.length == 0) = true then q a h { ids := ord,ro := true } else q a h' { ids := ord ++ List.range' h.length (h'.length - h.length),ro := false,wr := wrC E f ord ++ List.range' h.length (h'.length - h.length) }) = match box (xwg E f h h' ord) with | .mk (some (h'',c)) => q a h'' c | _ => none := by
  intro f h h' ord a
  unfold xwg
  by_cases hc : ((E.hint f).mode == 1 && h'.length - h.length == 0) = true
  ·simp only [if_pos hc,box]
  ·simp only [if_neg hc,box]
 generalize hs : s.getD t (.d .undef) = a
 cases a with
 | d x =>
  cases x with
  | fn f caps =>
   rw [key f caps ⟨hs⟩]
   simp only [fold]
   rfl
  | _ => rfl
 | clo f caps =>
  cases caps with
  | nil => rw [k2 f hs]; exact x143
  | cons c caps => rfl
 | _ => rfl
theorem xzx (n : Nat) (h : H) : x4 n h [] [] = [] := by cases n <;> rfl
mutual
theorem xfw {f : Nat → Option Nat} : ∀ a : A,idsA a = [] → mapA f a = a
 | .d x,_ => by simp only [mapA]
 | .sl id gen off len,h => by simp [idsA] at h
 | .ptr id gen off,h => by simp [idsA] at h
 | .mp id,h => by simp [idsA] at h
 | .clo g caps,h => by simp only [idsA] at h; simp only [mapA]; rw [x9y caps h]
 | .agg cs,h => by simp only [idsA] at h; simp only [mapA]; rw [x9y cs h]
 | .tup cs,h => by simp only [idsA] at h; simp only [mapA]; rw [x9y cs h]
 | .junk,_ => by simp only [mapA]
theorem x9y {f : Nat → Option Nat} : ∀ as : List A,idsL as = [] → x7 f as = as
 | [],_ => by simp only [x7]
 | a :: as,h => by
  simp only [idsL,List.append_eq_nil_iff] at h
  simp only [x7]
  rw [xfw a h.1,x9y as h.2]
end
theorem x1ri {a : A} (h : xjb a = true) : idsA a = [] := by
 cases a with
 | d x => rfl
 | agg cs =>
  simp only [xjb] at h
  simp only [idsA]
  induction cs with
  | nil => rfl
  | cons c cs ih =>
   simp only [List.all_cons,Bool.and_eq_true] at h
   simp only [idsL,ih h.2,List.append_nil]
   cases c <;> first | rfl | simp [isD] at h
 | _ => simp [xjb] at h
theorem xll : ∀ {as : List A},as.all xjb = true → idsL as = []
 | [],_ => rfl
 | a :: as,h => by
  simp only [List.all_cons,Bool.and_eq_true] at h
  simp only [idsL,x1ri h.1,xll h.2,List.append_nil]
theorem x19c {h : H} : ∀ {cs : List A},cs.all isD = true → ∃ ds,frzL h cs = some (ds,h) ∧ ds.map .d = cs
 | [],_ => ⟨[],rfl,rfl⟩
 | c :: cs,hs => by
  simp only [List.all_cons,Bool.and_eq_true] at hs
  obtain ⟨ds,h1,h2⟩ := x19c (h := h) hs.2
  cases c with
  | d x =>
   refine ⟨x :: ds,?_,by simp [h2]⟩
   unfold frzL at h1 ⊢
   simp only [x6i]
   have : frz deep h (.d x) = some (x,h) := rfl
   rw [this]
   simp only [h1]
  | _ => simp [isD] at hs
theorem xht {h : H} : ∀ {as : List A},as.all xjb = true → x6e h as = some (as,h)
 | [],_ => rfl
 | a :: as,hs => by
  simp only [List.all_cons,Bool.and_eq_true] at hs
  have ha : frzA h a = some (a,h) := by
   cases a with
   | d x => rfl
   | agg cs =>
    obtain ⟨ds,h1,h2⟩ := x19c (h := h) (cs := cs) (by simpa only [xjb] using hs.1)
    simp only [frzA,h1,h2]
   | _ => simp [xjb] at hs
  simp only [x6e,ha,xht hs.2]
theorem x1lq {r : A} (h : x9h r = true) : xc5 r = true ∧ mapA (fun k => back [] 0 0 k) r = r := by
 cases r with
 | d x => cases x <;> first | exact ⟨rfl,rfl⟩ | simp [x9h] at h
 | tup vs =>
  simp only [x9h] at h
  have key : xb5 vs = true ∧ x7 (fun k => back [] 0 0 k) vs = vs := by
   induction vs with
   | nil => exact ⟨rfl,by simp only [x7]⟩
   | cons v vs ih =>
    simp only [List.all_cons,Bool.and_eq_true] at h
    obtain ⟨i1,i2⟩ := ih h.2
    cases v with
    | d x => cases x <;> first | (exfalso; simp at h; done) | (refine ⟨by simp only [xb5,xc5,xil,i1,Bool.and_self],by simp only [x7,mapA,i2]⟩)
    | _ => simp at h
  exact ⟨by simp only [xc5]; exact key.1,by simp only [mapA,key.2]⟩
 | _ => simp [x9h] at h
theorem x1lc {f : FuncId} {args : List A} {r : A} (hs : args.all xjb = true) (hc : call f args [] = some (r,[])) (hp : x9h r = true ∨ ((E.hint f).mode == 1 || (E.hint f).mode == 3) = false) : x36 call E.hint [] f args = some (r,[]) := by
 unfold x36
 split
 ·exact hc
 ·rename_i hm
  rw [xht hs]
  simp only [hc]
  rcases hp with hp | hp
  ·rw [hp]; rfl
  ·rw [hm] at hp; cases hp
 ·rename_i hm
  rw [xht hs]
  simp only [hc]
  rcases hp with hp | hp
  ·obtain ⟨h1,h2⟩ := x1lq hp
   rw [h1]
   simp only [List.all_nil,Bool.and_self,if_true,List.length_nil,List.map_nil,List.append_nil]
   exact congrArg (fun x => some (x,([] : H))) h2
  ·rw [hm] at hp; cases hp
 ·rw [xht hs]
  simp only [hc]
theorem xr {f : FuncId} {args : List A} {r : A} (hs : args.all xjb = true) (hc : call f args [] = some (r,[])) (hr : idsA r = []) (hp : x9h r = true ∨ ((E.hint f).mode == 1 || (E.hint f).mode == 3) = false) : xe E call h f args k = k r h := by
 unfold xe
 rw [xll hs,xzx,x9y _ (xll hs)]
 have : pack h [] = [] := rfl
 rw [this,x1lc hs hc hp]
 simp only [List.length_nil,Nat.le_refl,true_and,closed,List.all_nil,Bool.and_self,if_true,xfw r hr,x18,List.map_nil,List.append_nil]
def x14 (call : xq) (f : FuncId) (args : List A) (k : A → Option R) : Option R :=
 match call f args [] with
 | some (r,[]) => if x9h r = true then k r else none
 | _ => none
theorem x4l {f : FuncId} {args : List A} {r : A} {k : A → Option R} (hc : call f args [] = some (r,[])) (hp : x9h r = true) : x14 call f args k = k r := by
 unfold x14
 rw [hc]
 simp only [hp,if_true]
theorem x1q8 {r : A} (h : x9h r = true) : idsA r = [] := by
 cases r with
 | d x => rfl
 | tup vs =>
  simp only [x9h] at h
  simp only [idsA]
  induction vs with
  | nil => rfl
  | cons v vs ih =>
   simp only [List.all_cons,Bool.and_eq_true] at h
   simp only [idsL,ih h.2,List.append_nil]
   cases v with
   | d x => rfl
   | _ => simp at h
 | _ => simp [x9h] at h
theorem x1g8 (ord : List Nat) (n : Nat) : back ord n ord.length = fun k => ord[k]? := by
 funext k
 unfold back
 split
 ·rfl
 ·rename_i h
  rw [List.getElem?_eq_none (by omega)]
theorem x1ic {h : H} {ord ids : List Nat} (hc : closed h ord ids = true) (hn : ord.Nodup) (hl : ∀ i ∈ ord,i < h.length) : x18 (fun (k : Nat) => ord[k]?) h ord (pack h ord) = h := by
 apply List.ext_getElem?
 intro id
 rw [xoq _ ord h _ id hn hl (by simp [pack])]
 cases hp : xa ord id with
 | none =>
  simp only []
  split
  ·rfl
  ·rename_i hge
   rw [List.getElem?_eq_none (by simp [pack]),List.getElem?_eq_none (by omega)]
   rfl
 | some k =>
  simp only []
  have hm := xwh hp
  obtain ⟨o,ho⟩ : ∃ o,h[id]? = some o := ⟨h[id]'(hl id hm),List.getElem?_eq_getElem _⟩
  rw [x8u (xz hp) ho,ho,Option.map_some,x11y hc hm ho]
theorem x1ll {f : FuncId} {args : List A} (hm : (E.hint f).mode = 1) : xe E call h f args k = match box (x4 x5 h (idsL args) []) with
  | .no => none
  | .mk ord => match box (x6e (pack h ord) (x7 (xa ord) args)) with
   | .mk (some (fs,_)) => if closed h ord (idsL args) = true then x14 call f fs fun r => k r h else none
   | _ => none := by
 unfold xe x36
 rw [hm]
 simp only [box]
 cases hf : x6e (pack h (x4 x5 h (idsL args) [])) (x7 (xa (x4 x5 h (idsL args) [])) args) with
 | none => rfl
 | some r =>
  obtain ⟨fs,h1⟩ := r
  simp only [x14]
  cases hc : call f fs [] with
  | none => simp
  | some r =>
   obtain ⟨a,h2⟩ := r
   cases h2 with
   | cons o h2 => simp
   | nil =>
    simp only []
    by_cases hp : x9h a = true
    ·simp only [hp,if_true]
     have hlen : (pack h (x4 x5 h (idsL args) [])).length = (x4 x5 h (idsL args) []).length := by simp [pack]
     simp only [hlen,Nat.le_refl,true_and]
     by_cases hcl : closed h (x4 x5 h (idsL args) []) (idsL args) = true
     ·simp only [hcl,if_true,x1g8,xfw a (x1q8 hp)]
      rw [x1ic hcl (x2h x5 h (idsL args) [] (by simp)) (xal x5 h (idsL args) [] (by simp))]
     ·simp only [hcl,Bool.false_eq_true,if_false]
    ·simp only [hp,Bool.false_eq_true,if_false]
     simp
def x2m (h : H) (args : List A) : Option (List A) := match box (x4 x5 h (idsL args) []) with
 | .no => none
 | .mk ord => match box (x6e (pack h ord) (x7 (xa ord) args)) with
  | .mk (some (fs,_)) => if closed h ord (idsL args) = true then some fs else none
  | _ => none
theorem xp {f : FuncId} {args : List A} (hm : (E.hint f).mode = 1) : xe E call h f args k = match box (x2m h args) with
  | .mk (some fs) => x14 call f fs fun r => k r h
  | _ => none := by
 rw [x1ll hm]
 unfold x2m
 simp only [box]
 cases x6e (pack h (x4 x5 h (idsL args) [])) (x7 (xa (x4 x5 h (idsL args) [])) args) with
 | none => rfl
 | some r =>
  obtain ⟨fs,h1⟩ := r
  simp only []
  by_cases hc : closed h (x4 x5 h (idsL args) []) (idsL args) = true
  ·simp only [if_pos hc]
  ·simp only [if_neg hc]
theorem x1mv {nf : Nat} {h : H} {ord : List Nat} {s : List A} : trim nf h ord s = match box (pack h ord) with
  | .mk p => (xj nf p (x7 (xa ord) s),x3a nf p)
  | .no => ([],[]) := rfl
theorem x1ys {nf : Nat} {m : List Bool} {s : List A} {h : H} : gc nf m s h = match box (tidy m s) with
  | .mk s1 => match box (x4c nf h (idsL s1)) with
   | .mk ord => trim nf h ord s1
   | .no => ([],[])
  | .no => ([],[]) := rfl
theorem x1mp {P : Program} {nf : Nat} {exp : Bool} {rs : List ResultVar} {e : Exit} {s : List A} {h : H} : kFin P nf exp rs e s h =
  if x6x e then (match xbd P s h rs with
   | some rs => match xcs nf exp h rs with
    | some (xs,h2) => match box (x4c nf h2 (idsL xs)) with
     | .mk ord => match box (trim nf h2 ord xs) with
      | .mk r => some (tupA r.1,r.2)
      | .no => none
     | .no => none
    | none => none
   | none => none) else none := rfl
theorem xh5 (nf : Nat) (h : H) (ids : List Nat) : x4c nf h ids = x4 1099511627776 h (x4p (h.take nf) ++ ids) (List.range nf) := rfl
theorem rng0 : List.range 0 = [] := rfl
theorem rng1 : List.range 1 = [0] := rfl
theorem rng2 : List.range 2 = [0,1] := rfl
theorem rng3 : List.range 3 = [0,1,2] := rfl
theorem xl1 (h : H) (ids : List Nat) : x4c 0 h ids = x4 1099511627776 h ids [] := by
 unfold x4c
 simp only [List.take_zero,x4p,List.nil_append,List.range_zero]
 rfl
theorem xke (n : Nat) (h : H) (acc : List Nat) : x4 n h [] acc = acc := by cases n <;> rfl
theorem xe4 (n : Nat) (h : H) (i : Nat) (todo acc : List Nat) : x4 (n + 1) h (i :: todo) acc = if acc.contains i = true then x4 n h todo acc
  else match h.getD i .void with
   | .box cs => x4 n h (todo ++ idsL cs) (acc ++ [i])
   | .vec cs _ _ => x4 n h (todo ++ idsL cs) (acc ++ [i])
   | .void => x4 n h todo acc
   | _ => x4 n h todo (acc ++ [i]) := by
 simp only [x4,List.getD_eq_getElem?_getD]
 split
 ·rfl
 ·cases h[i]? with
  | none => rfl
  | some o => cases o <;> rfl
theorem x1jx {α : Type} {c : Prop} [Decidable c] {a : α} (hc : c) : (if c then some a else none) = some a := if_pos hc
def iAnd (k : IntKind) (a b : Int) : Int := k.wrap (BitVec.ofInt k.bits a &&& BitVec.ofInt k.bits b).toNat
def iOr (k : IntKind) (a b : Int) : Int := k.wrap (BitVec.ofInt k.bits a ||| BitVec.ofInt k.bits b).toNat
def iXor (k : IntKind) (a b : Int) : Int := k.wrap (BitVec.ofInt k.bits a ^^^ BitVec.ofInt k.bits b).toNat
def x20h (k : IntKind) (a b : Int) : Int := k.wrap (BitVec.ofInt k.bits a &&& ~~~BitVec.ofInt k.bits b).toNat
section
variable {t : TypeId} {K : IntKind} {a b : Int}
theorem x1ef : x2w E .add t h (.d (.int K a)) (.d (.int K b)) = some (.d (.int K (K.wrap (a + b))),h) := by simp [x2w,aBin]; rfl
theorem x1fy : x2w E .sub t h (.d (.int K a)) (.d (.int K b)) = some (.d (.int K (K.wrap (a - b))),h) := by simp [x2w,aBin]; rfl
theorem x1ed : x2w E .mul t h (.d (.int K a)) (.d (.int K b)) = some (.d (.int K (K.wrap (a * b))),h) := by simp [x2w,aBin]; rfl
theorem x1fr : x2w E .and t h (.d (.int K a)) (.d (.int K b)) = some (.d (.int K (iAnd K a b)),h) := by simp [x2w,aBin]; rfl
theorem x1hk : x2w E .or t h (.d (.int K a)) (.d (.int K b)) = some (.d (.int K (iOr K a b)),h) := by simp [x2w,aBin]; rfl
theorem x1ga : x2w E .xor t h (.d (.int K a)) (.d (.int K b)) = some (.d (.int K (iXor K a b)),h) := by simp [x2w,aBin]; rfl
theorem x12f : x2w E .andNot t h (.d (.int K a)) (.d (.int K b)) = some (.d (.int K (x20h K a b)),h) := by simp [x2w,aBin]; rfl
theorem x1ds : x2w E .lss t h (.d (.int K a)) (.d (.int K b)) = some (.d (.bool (decide (a < b))),h) := by simp [x2w,aBin]
theorem x1g7 : x2w E .leq t h (.d (.int K a)) (.d (.int K b)) = some (.d (.bool (decide (a ≤ b))),h) := by simp [x2w,aBin]
theorem x1f4 : x2w E .gtr t h (.d (.int K a)) (.d (.int K b)) = some (.d (.bool (decide (b < a))),h) := by simp [x2w,aBin]
theorem x1e6 : x2w E .geq t h (.d (.int K a)) (.d (.int K b)) = some (.d (.bool (decide (b ≤ a))),h) := by simp [x2w,aBin]
theorem x1gh : x2w E .eql t h (.d (.int K a)) (.d (.int K b)) = some (.d (.bool (decide (a = b))),h) := by simp [x2w,aBin]; rfl
theorem x1en : x2w E .neq t h (.d (.int K a)) (.d (.int K b)) = some (.d (.bool (!decide (a = b))),h) := by simp [x2w,aBin]; rfl
theorem x1eq (hb : b ≠ 0) : x2w E .quo t h (.d (.int K a)) (.d (.int K b)) = some (.d (.int K (K.wrap (a.tdiv b))),h) := by simp [x2w,aBin,hb]
theorem x1g3 (hb : b ≠ 0) : x2w E .rem t h (.d (.int K a)) (.d (.int K b)) = some (.d (.int K (a.tmod b)),h) := by simp [x2w,aBin,hb]
theorem x1ft {K2 : IntKind} (hb : 0 ≤ b) : x2w E .shl t h (.d (.int K a)) (.d (.int K2 b)) = some (.d (.int K (K.wrap (a * 2 ^ (min b.toNat K.bits)))),h) := by
 have : ¬ b < 0 := by omega
 simp [x2w,aBin,Op.shift,this]; rfl
theorem x1es {K2 : IntKind} (hb : 0 ≤ b) : x2w E .shr t h (.d (.int K a)) (.d (.int K2 b)) = some (.d (.int K (a.fdiv (2 ^ (min b.toNat K.bits)))),h) := by
 have : ¬ b < 0 := by omega
 simp [x2w,aBin,Op.shift,this]; rfl
theorem x1n6 {b : Bool} : aUn .not (.d (.bool b)) = some (.d (.bool (!b))) := rfl
end
end
theorem WD : type_of% (AI @x19z (AI @x1ev (AI @x17c (AI @x1fo (AI @x1co (AI @x178 (AI @x1c4 (AI @x1am (AI @x1e1 (AI @x1jz (AI @x1e2 (AI @x1f7 (AI @x1b5 (AI @x17j (AI @x16o (AI @x1r1 (AI @x1t6 (AI @x1ne (AI @x1rq (AI @x1md (AI @x1n1 (AI @x1ni (AI @x1pg (AI @x1n4 (AI @x1iv (AI @x1jl (AI @xy2 (AI @xuc (AI @xw1 (AI @x1mg (AI @x1r0 (AI @x1is (AI @x14u (AI @x1in (AI @x1jv (AI @x1fu (AI @x1dw (AI @x1n2 (AI @x1fw (AI @xxh (AI @x12q (AI @x107 (AI @x16r (AI @x168 (AI @x17e (AI @x15y (AI @x10f (AI @x1du (AI @x105 (AI @x1fj (AI @x16x (AI @x17n (AI @x1fm (AI @x1mp (AI @x12s (AI @x1cj (AI @x1fq (AI @x16v (AI @x19i @x10y))))))))))))))))))))))))))))))))))))))))))))))))))))))))))) :=
 ⟨@x19z,@x1ev,@x17c,@x1fo,@x1co,@x178,@x1c4,@x1am,@x1e1,@x1jz,@x1e2,@x1f7,@x1b5,@x17j,@x16o,@x1r1,@x1t6,@x1ne,@x1rq,@x1md,@x1n1,@x1ni,@x1pg,@x1n4,@x1iv,@x1jl,@xy2,@xuc,@xw1,@x1mg,@x1r0,@x1is,@x14u,@x1in,@x1jv,@x1fu,@x1dw,@x1n2,@x1fw,@xxh,@x12q,@x107,@x16r,@x168,@x17e,@x15y,@x10f,@x1du,@x105,@x1fj,@x16x,@x17n,@x1fm,@x1mp,@x12s,@x1cj,@x1fq,@x16v,@x19i,@x10y⟩
theorem WDD : type_of% (AI @x1g6 (AI @x196 (AI @x177 (AI @x1au (AI @x1jb (AI @xw3 (AI @x1gn (AI @xxu (AI @x19n (AI @xy3 (AI @x172 (AI @x1i4 (AI @x1fz (AI @x1gl (AI @x10p (AI @x1jd (AI @x1mu (AI @x118 (AI @xya (AI @x1bv (AI @x1c1 (AI @x13i (AI @x19h (AI @x143 (AI @x1f3 (AI @x1ew (AI @x1a7 (AI @x1b7 (AI @x163 (AI @x138 @xxw)))))))))))))))))))))))))))))) :=
 ⟨@x1g6,@x196,@x177,@x1au,@x1jb,@xw3,@x1gn,@xxu,@x19n,@xy3,@x172,@x1i4,@x1fz,@x1gl,@x10p,@x1jd,@x1mu,@x118,@xya,@x1bv,@x1c1,@x13i,@x19h,@x143,@x1f3,@x1ew,@x1a7,@x1b7,@x163,@x138,@xxw⟩
theorem WK0 : type_of% (AI @x1tf (AI @x1n6 (AI @x1ef (AI @x1fy (AI @x1ed (AI @x1fr (AI @x1hk (AI @x1ga (AI @x12f (AI @x1eq (AI @x1g3 (AI @x1ft (AI @x1es (AI @x1ds (AI @x1g7 (AI @x1f4 (AI @x1e6 (AI @x1gh (AI @x1en (AI @ne_eq.{0} (AI @not_true_eq_false (AI @if_false.{0} (AI @if_true.{0} (AI @List.getD_nil.{0} (AI @List.getD_cons_zero.{0} (AI @List.getD_cons_succ.{0} (AI @List.set_cons_zero.{0} (AI @List.set_cons_succ.{0} (AI @x1ys @x1mv))))))))))))))))))))))))))))) :=
 ⟨@x1tf,@x1n6,@x1ef,@x1fy,@x1ed,@x1fr,@x1hk,@x1ga,@x12f,@x1eq,@x1g3,@x1ft,@x1es,@x1ds,@x1g7,@x1f4,@x1e6,@x1gh,@x1en,@ne_eq.{0},@not_true_eq_false,@if_false.{0},@if_true.{0},@List.getD_nil.{0},@List.getD_cons_zero.{0},@List.getD_cons_succ.{0},@List.set_cons_zero.{0},@List.set_cons_succ.{0},@x1ys,@x1mv⟩
theorem WK1 : type_of% (AI @Bool.not_true (AI @Bool.not_false (AI @Bool.true_eq_false (AI @Bool.false_eq_true (AI @decide_eq_true_eq (AI @decide_eq_false_iff_not (AI @Option.map_some.{0,0} (AI @Option.bind_some.{0,0} (AI @List.append_nil.{0} (AI @List.nil_append.{0} (AI @List.map_nil.{0,0} (AI @decide_true (AI @decide_false (AI @Bool.not_eq_false' (AI @Bool.not_eq_true' (AI @x1jx (AI @Nat.mul_one (AI @Nat.one_mul (AI @Nat.zero_add (AI @Nat.add_zero (AI @List.getElem?_cons_zero.{0} (AI @List.getElem?_cons_succ.{0} (AI @List.length_cons.{0} (AI @List.length_nil.{0} (AI @List.drop_zero.{0} (AI @List.all_cons.{0} (AI @List.all_nil.{0} (AI @Bool.and_self (AI @Bool.and_true @Bool.true_and))))))))))))))))))))))))))))) :=
 ⟨@Bool.not_true,@Bool.not_false,@Bool.true_eq_false,@Bool.false_eq_true,@decide_eq_true_eq,@decide_eq_false_iff_not,@Option.map_some.{0,0},@Option.bind_some.{0,0},@List.append_nil.{0},@List.nil_append.{0},@List.map_nil.{0,0},@decide_true,@decide_false,@Bool.not_eq_false',@Bool.not_eq_true',@x1jx,@Nat.mul_one,@Nat.one_mul,@Nat.zero_add,@Nat.add_zero,@List.getElem?_cons_zero.{0},@List.getElem?_cons_succ.{0},@List.length_cons.{0},@List.length_nil.{0},@List.drop_zero.{0},@List.all_cons.{0},@List.all_nil.{0},@Bool.and_self,@Bool.and_true,@Bool.true_and⟩
theorem WK2 : type_of% (AI @Bool.false_and (AI @Bool.and_false (AI @List.map_cons.{0,0} (AI @List.zip_cons_cons.{0,0} (AI @List.zip_nil_left.{0,0} (AI @List.flatten_cons.{0} (AI @List.flatten_nil.{0} (AI @List.take_zero.{0} (AI @List.take_nil.{0} (AI @List.drop_nil.{0} (AI @List.cons_append.{0} (AI @Bool.or_self (AI @Bool.or_false (AI @Bool.false_or (AI @Nat.not_lt_zero (AI @and_self (AI @and_true (AI @true_and (AI @Bool.or_true (AI @Bool.true_or (AI @Option.map_none.{0,0} (AI @List.drop_succ_cons.{0} (AI @List.take_succ_cons.{0} (AI @Nat.lt_irrefl (AI @List.head?_cons.{0} (AI @Option.any_some.{0} (AI @List.contains_cons.{0} (AI @List.contains_nil.{0} (AI @xl1 @xh5))))))))))))))))))))))))))))) :=
 ⟨@Bool.false_and,@Bool.and_false,@List.map_cons.{0,0},@List.zip_cons_cons.{0,0},@List.zip_nil_left.{0,0},@List.flatten_cons.{0},@List.flatten_nil.{0},@List.take_zero.{0},@List.take_nil.{0},@List.drop_nil.{0},@List.cons_append.{0},@Bool.or_self,@Bool.or_false,@Bool.false_or,@Nat.not_lt_zero,@and_self,@and_true,@true_and,@Bool.or_true,@Bool.true_or,@Option.map_none.{0,0},@List.drop_succ_cons.{0},@List.take_succ_cons.{0},@Nat.lt_irrefl,@List.head?_cons.{0},@Option.any_some.{0},@List.contains_cons.{0},@List.contains_nil.{0},@xl1,@xh5⟩
theorem WK3 : type_of% (AI @rng0 (AI @rng1 (AI @rng2 (AI @rng3 (AI @Option.getD_none.{0} (AI @Option.isNone_none.{0} (AI @Option.isNone_some.{0} (AI @Option.isSome_none.{0} (AI @Option.isSome_some.{0} (AI @xke (AI @xe4 (AI @beq_self_eq_true.{0} (AI @Nat.succ_ne_self (AI @Nat.zero_ne_one (AI @Nat.one_ne_zero (AI @List.length_append.{0} (AI @false_or (AI @or_false (AI @or_true (AI @true_or (AI @List.take_length.{0} (AI @Option.toList_none.{0} @Option.toList_some.{0})))))))))))))))))))))) :=
 ⟨@rng0,@rng1,@rng2,@rng3,@Option.getD_none.{0},@Option.isNone_none.{0},@Option.isNone_some.{0},@Option.isSome_none.{0},@Option.isSome_some.{0},@xke,@xe4,@beq_self_eq_true.{0},@Nat.succ_ne_self,@Nat.zero_ne_one,@Nat.one_ne_zero,@List.length_append.{0},@false_or,@or_false,@or_true,@true_or,@List.take_length.{0},@Option.toList_none.{0},@Option.toList_some.{0}⟩
theorem WK : type_of% (AI @WK0 (AI @WK1 (AI @WK2 @WK3))) :=
 ⟨@WK0,@WK1,@WK2,@WK3⟩
section
variable {E : Env} {vs : List A} {t u : TypeId} {x y : Operand}
theorem x17a : x4e E (.load t x) vs = true := rfl
theorem x14c {a b c : Option Operand} : x4e E (.slice t x a b c) vs = true := rfl
theorem x1f2 : x4e E (.indexAddr t x y) vs = true := rfl
theorem x16y : x4e E (.convert t u x) vs = (x12 E.P u).isNone := rfl
theorem x112 {a : Array Operand} {b : Array TypeId} : x4e E (.call ⟨.builtin .append,a,b⟩) vs = false := rfl
theorem x1cg {a : Array Operand} {b : Array TypeId} : x4e E (.call ⟨.builtin .len,a,b⟩) vs = true := rfl
theorem x1ah {a : Array Operand} {b : Array TypeId} {f : FuncId} {c : List A} : x4e E (.call ⟨.value x,a,b⟩) (.clo f c :: vs) = ((E.hint f).mode == 1) := rfl
theorem x1eu {a : Array Operand} {b : Array TypeId} {f : FuncId} {c : List D} : x4e E (.call ⟨.value x,a,b⟩) (.d (.fn f c) :: vs) = ((E.hint f).mode == 1) := rfl
theorem x19f : x4e E (.box t x) vs = false := rfl
theorem x123 : x4e E (.alloc t) vs = false := rfl
theorem x11e : x4e E (.assign x) vs = false := rfl
theorem x13n : x4e E (.store t x y) vs = false := rfl
theorem x1ea {n : Nat} {ps : Array (Nat × Operand)} : x4e E (.buildSlice t n ps) vs = false := rfl
theorem x1et : x4e E (.makeSlice t x y) vs = false := rfl
theorem x1f0 : x4e E (.makeMap t none) vs = false := rfl
theorem x1gi {z : Operand} : x4e E (.mapUpdate t x y z) vs = false := rfl
theorem x1nf {b : Bool} : x27 (.lookup t x y b) = false := rfl
theorem x1mn : x27 (.makeMap t none) = false := rfl
theorem x1mb {z : Operand} : x27 (.mapUpdate t x y z) = false := rfl
theorem x1bl : opds (.alloc t) = [] := rfl
theorem x1eo : x27 (.load t x) = false := rfl
theorem x1cl : x27 (.store t x y) = false := rfl
theorem x16l : x27 (.assign x) = false := rfl
theorem x1bs : x27 (.alloc t) = false := rfl
theorem x1iw : x27 (.box t x) = false := rfl
theorem x1mc {n : Nat} {ps : Array (Nat × Operand)} : x27 (.buildSlice t n ps) = false := rfl
theorem x1dv : x27 (.convert t u x) = false := rfl
theorem x1mt : x27 (.makeSlice t x y) = false := rfl
theorem x1ca {a b c : Option Operand} : x27 (.slice t x a b c) = false := rfl
theorem x1n9 : x27 (.indexAddr t x y) = false := rfl
theorem x1eh {c : Call} : x27 (.call c) = false := rfl
end
theorem UNx1 : type_of% (fun v0 => @x6x.eq_3 (Go.Exit.exit v0) (by nofun) (by nofun)) := by intros; rfl
theorem UNx2 : type_of% (fun v0 => @x6x.eq_3 (Go.Exit.goto v0) (by nofun) (by nofun)) := by intros; rfl
theorem UNx3 : type_of% (fun v0 => @x6x.eq_3 (Go.Exit.panic v0) (by nofun) (by nofun)) := by intros; rfl
theorem UNx4 : type_of% (@x6x.eq_3 Go.Exit.outgrown (by nofun) (by nofun)) := (@x6x.eq_3 Go.Exit.outgrown (by nofun) (by nofun))
theorem UNx5 : type_of% (fun v0 v1 v2 v3 => @outA.eq_2 v0 v1 v2 (A.d v3) (by nofun)) := by intros; rfl
theorem UNx6 : type_of% (fun v0 v1 v2 v3 v4 v5 v6 => @outA.eq_2 v0 v1 v2 (A.sl v3 v4 v5 v6) (by nofun)) := by intros; rfl
theorem UNx7 : type_of% (fun v0 v1 v2 v3 v4 v5 => @outA.eq_2 v0 v1 v2 (A.ptr v3 v4 v5) (by nofun)) := by intros; rfl
theorem UNx8 : type_of% (fun v0 v1 v2 v3 => @outA.eq_2 v0 v1 v2 (A.mp v3) (by nofun)) := by intros; rfl
theorem UNx9 : type_of% (fun v0 v1 v2 v3 v4 => @outA.eq_2 v0 v1 v2 (A.clo v3 v4) (by nofun)) := by intros; rfl
theorem x1yc : type_of% (fun v0 v1 v2 v3 => @outA.eq_2 v0 v1 v2 (A.tup v3) (by nofun)) := by intros; rfl
theorem x1x6 : type_of% (fun v0 v1 v2 => @outA.eq_2 v0 v1 v2 A.junk (by nofun)) := by intros; rfl
theorem x1wu : type_of% (fun v0 v1 v2 => @outS.eq_2 v0 v1 v2 D.undef (by nofun)) := by intros; rfl
theorem x1yg : type_of% (fun v0 v1 v2 v3 v4 => @outS.eq_2 v0 v1 v2 (D.int v3 v4) (by nofun)) := by intros; rfl
theorem x1zi : type_of% (fun v0 v1 v2 v3 => @outS.eq_2 v0 v1 v2 (D.bool v3) (by nofun)) := by intros; rfl
theorem x1yi : type_of% (fun v0 v1 v2 v3 => @outS.eq_2 v0 v1 v2 (D.str v3) (by nofun)) := by intros; rfl
theorem x1xv : type_of% (fun v0 v1 v2 v3 v4 => @outS.eq_2 v0 v1 v2 (D.ivs v3 v4) (by nofun)) := by intros; rfl
theorem x1wy : type_of% (fun v0 v1 v2 v3 => @outS.eq_2 v0 v1 v2 (D.iptr v3) (by nofun)) := by intros; rfl
theorem x1x4 : type_of% (fun v0 v1 v2 => @outS.eq_2 v0 v1 v2 D.nilp (by nofun)) := by intros; rfl
theorem x1xh : type_of% (fun v0 v1 v2 v3 v4 => @outS.eq_2 v0 v1 v2 (D.fn v3 v4) (by nofun)) := by intros; rfl
theorem x1yv : type_of% (fun v0 v1 v2 => @outS.eq_2 v0 v1 v2 D.nilfn (by nofun)) := by intros; rfl
theorem x1xq : type_of% (fun v0 v1 v2 => @outS.eq_2 v0 v1 v2 D.nili (by nofun)) := by intros; rfl
theorem x1zg : type_of% (fun v0 v1 v2 => @outS.eq_2 v0 v1 v2 D.nilm (by nofun)) := by intros; rfl
theorem x1z7 : type_of% (fun v0 v1 v2 v3 v4 => @outS.eq_2 v0 v1 v2 (D.ifc v3 v4) (by nofun)) := by intros; rfl
theorem x1zh : type_of% (fun v0 v1 v2 v3 v4 => @outS.eq_6 v0 v1 v2 (A.clo v3 v4) (by nofun) (by nofun) (by nofun) (by nofun) (by nofun)) := by intros; rfl
theorem x1xm : type_of% (fun v0 v1 v2 v3 => @outS.eq_6 v0 v1 v2 (A.agg v3) (by nofun) (by nofun) (by nofun) (by nofun) (by nofun)) := by intros; rfl
theorem x1z5 : type_of% (fun v0 v1 v2 v3 => @outS.eq_6 v0 v1 v2 (A.tup v3) (by nofun) (by nofun) (by nofun) (by nofun) (by nofun)) := by intros; rfl
theorem x1zc : type_of% (fun v0 v1 v2 => @outS.eq_6 v0 v1 v2 A.junk (by nofun) (by nofun) (by nofun) (by nofun) (by nofun)) := by intros; rfl
theorem x1xl : type_of% (fun v0 v1 => @xcr.eq_4 (List.cons v0 v1) (by nofun)) := (fun v0 v1 => @xcr.eq_4 (List.cons v0 v1) (by nofun))
theorem x1y4 : type_of% (fun v0 v1 => @x3m.eq_3 (A.d (D.int v0 v1)) (by nofun) (by nofun)) := by intros; rfl
theorem x1yx : type_of% (fun v0 => @x3m.eq_3 (A.d (D.bool v0)) (by nofun) (by nofun)) := by intros; rfl
theorem x1y9 : type_of% (fun v0 => @x3m.eq_3 (A.d (D.str v0)) (by nofun) (by nofun)) := by intros; rfl
theorem x1ze : type_of% (fun v0 v1 => @x3m.eq_3 (A.d (D.ivs v0 v1)) (by nofun) (by nofun)) := by intros; rfl
theorem x1za : type_of% (@x3m.eq_3 (A.d D.nils) (by nofun) (by nofun)) := (@x3m.eq_3 (A.d D.nils) (by nofun) (by nofun))
theorem x1yo : type_of% (fun v0 => @x3m.eq_3 (A.d (D.iptr v0)) (by nofun) (by nofun)) := by intros; rfl
theorem x1yp : type_of% (@x3m.eq_3 (A.d D.nilp) (by nofun) (by nofun)) := (@x3m.eq_3 (A.d D.nilp) (by nofun) (by nofun))
theorem x1yq : type_of% (fun v0 v1 => @x3m.eq_3 (A.d (D.fn v0 v1)) (by nofun) (by nofun)) := by intros; rfl
theorem x1x2 : type_of% (@x3m.eq_3 (A.d D.nilfn) (by nofun) (by nofun)) := (@x3m.eq_3 (A.d D.nilfn) (by nofun) (by nofun))
theorem x1yn : type_of% (@x3m.eq_3 (A.d D.nili) (by nofun) (by nofun)) := (@x3m.eq_3 (A.d D.nili) (by nofun) (by nofun))
theorem x1z6 : type_of% (@x3m.eq_3 (A.d D.nilm) (by nofun) (by nofun)) := (@x3m.eq_3 (A.d D.nilm) (by nofun) (by nofun))
theorem x1zd : type_of% (fun v0 v1 => @x3m.eq_3 (A.d (D.ifc v0 v1)) (by nofun) (by nofun)) := by intros; rfl
theorem x1ye : type_of% (fun v0 v1 v2 v3 => @x3m.eq_3 (A.sl v0 v1 v2 v3) (by nofun) (by nofun)) := by intros; rfl
theorem x1x8 : type_of% (fun v0 v1 v2 => @x3m.eq_3 (A.ptr v0 v1 v2) (by nofun) (by nofun)) := by intros; rfl
theorem x1y5 : type_of% (fun v0 => @x3m.eq_3 (A.mp v0) (by nofun) (by nofun)) := by intros; rfl
theorem x1yu : type_of% (fun v0 v1 => @x3m.eq_3 (A.clo v0 v1) (by nofun) (by nofun)) := by intros; rfl
theorem x1xy : type_of% (fun v0 => @x3m.eq_3 (A.agg v0) (by nofun) (by nofun)) := by intros; rfl
theorem x1yh : type_of% (fun v0 => @x3m.eq_3 (A.tup v0) (by nofun) (by nofun)) := by intros; rfl
theorem x1wq : type_of% (fun v0 => @tidy.eq_3 List.nil v0 (by nofun) (by nofun)) := by intros; rfl
theorem x1yd : type_of% (fun v0 => @tidy.eq_3 (List.cons Bool.false v0) List.nil (by nofun) (by nofun)) := by intros; rfl
theorem x1y2 : type_of% (fun v0 => @tidy.eq_3 (List.cons Bool.true v0) List.nil (by nofun) (by nofun)) := by intros; rfl
theorem x1y6 : type_of% (fun v0 v1 v2 v3 v4 => @x2q.eq_2 v0 v1 v2 v3 (A.d v4) (by nofun)) := by intros; rfl
theorem x1yr : type_of% (fun v0 v1 v2 v3 v4 v5 v6 v7 => @x2q.eq_2 v0 v1 v2 v3 (A.sl v4 v5 v6 v7) (by nofun)) := by intros; rfl
theorem x1xk : type_of% (fun v0 v1 v2 v3 v4 v5 v6 => @x2q.eq_2 v0 v1 v2 v3 (A.ptr v4 v5 v6) (by nofun)) := by intros; rfl
theorem x1yj : type_of% (fun v0 v1 v2 v3 v4 v5 => @x2q.eq_2 v0 v1 v2 v3 (A.clo v4 v5) (by nofun)) := by intros; rfl
theorem x1xj : type_of% (fun v0 v1 v2 v3 v4 => @x2q.eq_2 v0 v1 v2 v3 (A.agg v4) (by nofun)) := by intros; rfl
theorem x1xw : type_of% (fun v0 v1 v2 v3 v4 => @x2q.eq_2 v0 v1 v2 v3 (A.tup v4) (by nofun)) := by intros; rfl
theorem x1x3 : type_of% (fun v0 v1 v2 v3 => @x2q.eq_2 v0 v1 v2 v3 A.junk (by nofun)) := by intros; rfl
theorem x1yb : type_of% (fun v0 v1 v2 v3 v4 => @x7v.eq_2 v0 v1 v2 (A.d v4) v3 (by nofun)) := by intros; rfl
theorem x1xr : type_of% (fun v0 v1 v2 v3 v4 v5 v6 => @x7v.eq_2 v0 v1 v2 (A.ptr v4 v5 v6) v3 (by nofun)) := by intros; rfl
theorem x1wt : type_of% (fun v0 v1 v2 v3 v4 => @x7v.eq_2 v0 v1 v2 (A.mp v4) v3 (by nofun)) := by intros; rfl
theorem x1wp : type_of% (fun v0 v1 v2 v3 v4 v5 => @x7v.eq_2 v0 v1 v2 (A.clo v4 v5) v3 (by nofun)) := by intros; rfl
theorem x1xt : type_of% (fun v0 v1 v2 v3 v4 => @x7v.eq_2 v0 v1 v2 (A.agg v4) v3 (by nofun)) := by intros; rfl
theorem x1zb : type_of% (fun v0 v1 v2 v3 v4 => @x7v.eq_2 v0 v1 v2 (A.tup v4) v3 (by nofun)) := by intros; rfl
theorem x1yk : type_of% (fun v0 v1 v2 v3 => @x7v.eq_2 v0 v1 v2 A.junk v3 (by nofun)) := by intros; rfl
theorem x1ya : type_of% (fun v0 v1 => @xj4.eq_2 v0 (A.d v1) (by nofun)) := by intros; rfl
theorem x1x9 : type_of% (fun v0 v1 v2 v3 => @xj4.eq_2 v0 (A.ptr v1 v2 v3) (by nofun)) := by intros; rfl
theorem x1x0 : type_of% (fun v0 v1 => @xj4.eq_2 v0 (A.mp v1) (by nofun)) := by intros; rfl
theorem x1z2 : type_of% (fun v0 v1 v2 => @xj4.eq_2 v0 (A.clo v1 v2) (by nofun)) := by intros; rfl
theorem x1z1 : type_of% (fun v0 v1 => @xj4.eq_2 v0 (A.agg v1) (by nofun)) := by intros; rfl
theorem x1y3 : type_of% (fun v0 v1 => @xj4.eq_2 v0 (A.tup v1) (by nofun)) := by intros; rfl
theorem x1zf : type_of% (fun v0 => @xj4.eq_2 v0 A.junk (by nofun)) := by intros; rfl
theorem x1yl : type_of% (fun v0 v1 v2 => @x7s.eq_2 v0 v1 (A.d v2) (by nofun)) := by intros; rfl
theorem x1xx : type_of% (fun v0 v1 v2 v3 v4 => @x7s.eq_2 v0 v1 (A.ptr v2 v3 v4) (by nofun)) := by intros; rfl
theorem x1yw : type_of% (fun v0 v1 v2 => @x7s.eq_2 v0 v1 (A.mp v2) (by nofun)) := by intros; rfl
theorem x1ws : type_of% (fun v0 v1 v2 v3 => @x7s.eq_2 v0 v1 (A.clo v2 v3) (by nofun)) := by intros; rfl
theorem x1yz : type_of% (fun v0 v1 v2 => @x7s.eq_2 v0 v1 (A.agg v2) (by nofun)) := by intros; rfl
theorem x1xg : type_of% (fun v0 v1 v2 => @x7s.eq_2 v0 v1 (A.tup v2) (by nofun)) := by intros; rfl
theorem x1z8 : type_of% (fun v0 v1 => @x7s.eq_2 v0 v1 A.junk (by nofun)) := by intros; rfl
theorem x1xo : type_of% (fun v0 v1 v2 => @frz.eq_5 v0 (A.d v2) v1 (by nofun) (by nofun) (by nofun)) := by intros; rfl
theorem x1wz : type_of% (fun v0 v1 v2 => @frz.eq_5 v0 (A.mp v2) v1 (by nofun) (by nofun) (by nofun)) := by intros; rfl
theorem x1xn : type_of% (fun v0 v1 v2 => @frz.eq_5 v0 (A.agg v2) v1 (by nofun) (by nofun) (by nofun)) := by intros; rfl
theorem x1xs : type_of% (fun v0 v1 v2 => @frz.eq_5 v0 (A.tup v2) v1 (by nofun) (by nofun) (by nofun)) := by intros; rfl
theorem x1yt : type_of% (fun v0 v1 => @frz.eq_5 v0 A.junk v1 (by nofun) (by nofun) (by nofun)) := by intros; rfl
theorem x1wo : type_of% (fun v0 v1 v2 v3 => @frz0.eq_3 v0 (A.ptr v1 v2 v3) (by nofun) (by nofun)) := by intros; rfl
theorem x1z4 : type_of% (fun v0 v1 => @frz0.eq_3 v0 (A.mp v1) (by nofun) (by nofun)) := by intros; rfl
theorem x1xz : type_of% (fun v0 v1 v2 => @frz0.eq_3 v0 (A.clo v1 v2) (by nofun) (by nofun)) := by intros; rfl
theorem x1wn : type_of% (fun v0 v1 => @frz0.eq_3 v0 (A.agg v1) (by nofun) (by nofun)) := by intros; rfl
theorem x1xa : type_of% (fun v0 v1 => @frz0.eq_3 v0 (A.tup v1) (by nofun) (by nofun)) := by intros; rfl
theorem x1y1 : type_of% (fun v0 => @frz0.eq_3 v0 A.junk (by nofun) (by nofun)) := by intros; rfl
theorem x1x7 : type_of% (fun v0 => @xh.eq_2 (A.d v0) (by nofun)) := by intros; rfl
theorem x1xf : type_of% (fun v0 v1 v2 v3 => @xh.eq_2 (A.sl v0 v1 v2 v3) (by nofun)) := by intros; rfl
theorem x1y0 : type_of% (fun v0 v1 v2 => @xh.eq_2 (A.ptr v0 v1 v2) (by nofun)) := by intros; rfl
theorem x1xc : type_of% (fun v0 => @xh.eq_2 (A.mp v0) (by nofun)) := by intros; rfl
theorem x1x1 : type_of% (fun v0 v1 => @xh.eq_2 (A.clo v0 v1) (by nofun)) := by intros; rfl
theorem x1yf : type_of% (fun v0 => @xh.eq_2 (A.tup v0) (by nofun)) := by intros; rfl
theorem x1z0 : type_of% (@xh.eq_2 A.junk (by nofun)) := (@xh.eq_2 A.junk (by nofun))
theorem x1wr : type_of% (fun v0 v1 => @x2f.eq_5 (A.d (D.int v0 v1)) (by nofun) (by nofun) (by nofun) (by nofun)) := by intros; rfl
theorem x1xd : type_of% (fun v0 => @x2f.eq_5 (A.d (D.bool v0)) (by nofun) (by nofun) (by nofun) (by nofun)) := by intros; rfl
theorem x1ym : type_of% (fun v0 => @x2f.eq_5 (A.d (D.str v0)) (by nofun) (by nofun) (by nofun) (by nofun)) := by intros; rfl
theorem x1ww : type_of% (fun v0 v1 => @x2f.eq_5 (A.d (D.ivs v0 v1)) (by nofun) (by nofun) (by nofun) (by nofun)) := by intros; rfl
theorem x1rg : type_of% (@x2f.eq_5 (A.d D.nils) (by nofun) (by nofun) (by nofun) (by nofun)) := (@x2f.eq_5 (A.d D.nils) (by nofun) (by nofun) (by nofun) (by nofun))
theorem x1rd : type_of% (fun v0 => @x2f.eq_5 (A.d (D.iptr v0)) (by nofun) (by nofun) (by nofun) (by nofun)) := by intros; rfl
theorem x1r9 : type_of% (@x2f.eq_5 (A.d D.nilp) (by nofun) (by nofun) (by nofun) (by nofun)) := (@x2f.eq_5 (A.d D.nilp) (by nofun) (by nofun) (by nofun) (by nofun))
theorem x1t2 : type_of% (fun v0 v1 => @x2f.eq_5 (A.d (D.fn v0 v1)) (by nofun) (by nofun) (by nofun) (by nofun)) := by intros; rfl
theorem x1ss : type_of% (@x2f.eq_5 (A.d D.nilfn) (by nofun) (by nofun) (by nofun) (by nofun)) := (@x2f.eq_5 (A.d D.nilfn) (by nofun) (by nofun) (by nofun) (by nofun))
theorem x1st : type_of% (@x2f.eq_5 (A.d D.nili) (by nofun) (by nofun) (by nofun) (by nofun)) := (@x2f.eq_5 (A.d D.nili) (by nofun) (by nofun) (by nofun) (by nofun))
theorem x1u5 : type_of% (@x2f.eq_5 (A.d D.nilm) (by nofun) (by nofun) (by nofun) (by nofun)) := (@x2f.eq_5 (A.d D.nilm) (by nofun) (by nofun) (by nofun) (by nofun))
theorem x1t8 : type_of% (fun v0 v1 => @x2f.eq_5 (A.d (D.ifc v0 v1)) (by nofun) (by nofun) (by nofun) (by nofun)) := by intros; rfl
theorem x1rj : type_of% (fun v0 v1 v2 v3 => @x2f.eq_5 (A.sl v0 v1 v2 v3) (by nofun) (by nofun) (by nofun) (by nofun)) := by intros; rfl
theorem x1uc : type_of% (fun v0 v1 v2 => @x2f.eq_5 (A.ptr v0 v1 v2) (by nofun) (by nofun) (by nofun) (by nofun)) := by intros; rfl
theorem x1q2 : type_of% (fun v0 => @x2f.eq_5 (A.mp v0) (by nofun) (by nofun) (by nofun) (by nofun)) := by intros; rfl
theorem x1r4 : type_of% (fun v0 v1 => @x2f.eq_5 (A.clo v0 v1) (by nofun) (by nofun) (by nofun) (by nofun)) := by intros; rfl
theorem x1qz : type_of% (fun v0 => @xah.eq_2 (A.d v0) (by nofun)) := by intros; rfl
theorem x1p8 : type_of% (fun v0 v1 v2 v3 => @xah.eq_2 (A.sl v0 v1 v2 v3) (by nofun)) := by intros; rfl
theorem x1pj : type_of% (fun v0 v1 v2 => @xah.eq_2 (A.ptr v0 v1 v2) (by nofun)) := by intros; rfl
theorem x1rc : type_of% (fun v0 => @xah.eq_2 (A.mp v0) (by nofun)) := by intros; rfl
theorem x1tx : type_of% (fun v0 v1 => @xah.eq_2 (A.clo v0 v1) (by nofun)) := by intros; rfl
theorem x1rb : type_of% (fun v0 => @xah.eq_2 (A.agg v0) (by nofun)) := by intros; rfl
theorem x1ro : type_of% (fun v0 => @xah.eq_2 (A.tup v0) (by nofun)) := by intros; rfl
theorem x1sl : type_of% (fun v0 v1 v2 v3 => @x4p.eq_4 (O.arr v1 v2 v3) v0 (by nofun) (by nofun)) := by intros; rfl
theorem x1ue : type_of% (fun v0 v1 v2 v3 => @x4p.eq_4 (O.ice v1 v2 v3) v0 (by nofun) (by nofun)) := by intros; rfl
theorem x1u0 : type_of% (fun v0 v1 => @x4p.eq_4 (O.mp v1) v0 (by nofun) (by nofun)) := by intros; rfl
theorem x1rk : type_of% (fun v0 => @x4p.eq_4 O.void v0 (by nofun) (by nofun)) := by intros; rfl
theorem x1tw : type_of% (@tupA.eq_2 List.nil (by nofun)) := (@tupA.eq_2 List.nil (by nofun))
theorem x1q3 : type_of% (fun v0 v1 v2 => @tupA.eq_2 (List.cons v0 (List.cons v1 v2)) (by nofun)) := by intros; rfl
theorem x1rt : type_of% (fun v0 => @xrh.eq_2 List.nil v0 (by nofun)) := by intros; rfl
theorem x1qw : type_of% (fun v0 v1 => @xrh.eq_2 (List.cons v1 List.nil) v0 (by nofun)) := by intros; rfl
theorem x1ts : type_of% (fun v0 v1 v2 => @xrh.eq_2 (List.cons v1 (List.cons v2 List.nil)) v0 (by nofun)) := by intros; rfl
theorem x1qc : type_of% (fun v0 v1 v2 v3 v4 v5 => @xrh.eq_2 (List.cons v1 (List.cons v2 (List.cons v3 (List.cons v4 v5)))) v0 (by nofun)) := by intros; rfl
theorem x1qq : type_of% (fun v0 v1 v2 v3 v4 => @x38.eq_2 v0 v1 (Go.Operand.tmp v4) v2 v3 (by nofun)) := by intros; rfl
theorem x1s6 : type_of% (fun v0 v1 v2 v3 => @x38.eq_2 v0 v1 (Go.Operand.const v3) v2 (A.d D.undef) (by nofun)) := by intros; rfl
theorem x1rh : type_of% (fun v0 v1 v2 v3 v4 v5 => @x38.eq_2 v0 v1 (Go.Operand.const v3) v2 (A.d (D.int v4 v5)) (by nofun)) := by intros; rfl
theorem x1pi : type_of% (fun v0 v1 v2 v3 v4 => @x38.eq_2 v0 v1 (Go.Operand.const v3) v2 (A.d (D.bool v4)) (by nofun)) := by intros; rfl
theorem x1sg : type_of% (fun v0 v1 v2 v3 v4 => @x38.eq_2 v0 v1 (Go.Operand.const v3) v2 (A.d (D.str v4)) (by nofun)) := by intros; rfl
theorem x1qg : type_of% (fun v0 v1 v2 v3 v4 v5 => @x38.eq_2 v0 v1 (Go.Operand.const v3) v2 (A.d (D.ivs v4 v5)) (by nofun)) := by intros; rfl
theorem x1tn : type_of% (fun v0 v1 v2 v3 v4 => @x38.eq_2 v0 v1 (Go.Operand.const v3) v2 (A.d (D.iptr v4)) (by nofun)) := by intros; rfl
theorem x1s2 : type_of% (fun v0 v1 v2 v3 => @x38.eq_2 v0 v1 (Go.Operand.const v3) v2 (A.d D.nilp) (by nofun)) := by intros; rfl
theorem x1qb : type_of% (fun v0 v1 v2 v3 v4 v5 => @x38.eq_2 v0 v1 (Go.Operand.const v3) v2 (A.d (D.fn v4 v5)) (by nofun)) := by intros; rfl
theorem x1tl : type_of% (fun v0 v1 v2 v3 => @x38.eq_2 v0 v1 (Go.Operand.const v3) v2 (A.d D.nilfn) (by nofun)) := by intros; rfl
theorem x1r3 : type_of% (fun v0 v1 v2 v3 => @x38.eq_2 v0 v1 (Go.Operand.const v3) v2 (A.d D.nili) (by nofun)) := by intros; rfl
theorem x1um : type_of% (fun v0 v1 v2 v3 => @x38.eq_2 v0 v1 (Go.Operand.const v3) v2 (A.d D.nilm) (by nofun)) := by intros; rfl
theorem x1po : type_of% (fun v0 v1 v2 v3 v4 v5 => @x38.eq_2 v0 v1 (Go.Operand.const v3) v2 (A.d (D.ifc v4 v5)) (by nofun)) := by intros; rfl
theorem x1tt : type_of% (fun v0 v1 v2 v3 v4 v5 v6 v7 => @x38.eq_2 v0 v1 (Go.Operand.const v3) v2 (A.sl v4 v5 v6 v7) (by nofun)) := by intros; rfl
theorem x1tj : type_of% (fun v0 v1 v2 v3 v4 v5 v6 => @x38.eq_2 v0 v1 (Go.Operand.const v3) v2 (A.ptr v4 v5 v6) (by nofun)) := by intros; rfl
theorem x1ty : type_of% (fun v0 v1 v2 v3 v4 => @x38.eq_2 v0 v1 (Go.Operand.const v3) v2 (A.mp v4) (by nofun)) := by intros; rfl
theorem x1q0 : type_of% (fun v0 v1 v2 v3 v4 v5 => @x38.eq_2 v0 v1 (Go.Operand.const v3) v2 (A.clo v4 v5) (by nofun)) := by intros; rfl
theorem x1qr : type_of% (fun v0 v1 v2 v3 v4 => @x38.eq_2 v0 v1 (Go.Operand.const v3) v2 (A.agg v4) (by nofun)) := by intros; rfl
theorem x1t9 : type_of% (fun v0 v1 v2 v3 v4 => @x38.eq_2 v0 v1 (Go.Operand.const v3) v2 (A.tup v4) (by nofun)) := by intros; rfl
theorem x1sa : type_of% (fun v0 v1 v2 v3 => @x38.eq_2 v0 v1 (Go.Operand.const v3) v2 A.junk (by nofun)) := by intros; rfl
theorem x1s1 : type_of% (fun v0 v1 v2 v3 v4 => @x38.eq_2 v0 v1 (Go.Operand.global v4) v2 v3 (by nofun)) := by intros; rfl
theorem x1ui : type_of% (fun v0 v1 v2 v3 v4 => @x38.eq_2 v0 v1 (Go.Operand.func v4) v2 v3 (by nofun)) := by intros; rfl
theorem x1pv : type_of% (fun v0 => @x1j.eq_2 (Go.Op.move v0) (by nofun)) := by intros; rfl
theorem x1si : type_of% (fun v0 => @x1j.eq_2 (Go.Op.assign v0) (by nofun)) := by intros; rfl
theorem x1u3 : type_of% (fun v0 v1 v2 => @x1j.eq_2 (Go.Op.pick v0 v1 v2) (by nofun)) := by intros; rfl
theorem x1su : type_of% (fun v0 => @x1j.eq_2 (Go.Op.alloc v0) (by nofun)) := by intros; rfl
theorem x1tc : type_of% (fun v0 v1 => @x1j.eq_2 (Go.Op.box v0 v1) (by nofun)) := by intros; rfl
theorem x1rr : type_of% (fun v0 v1 => @x1j.eq_2 (Go.Op.build v0 v1) (by nofun)) := by intros; rfl
theorem x1sv : type_of% (fun v0 v1 v2 => @x1j.eq_2 (Go.Op.buildSlice v0 v1 v2) (by nofun)) := by intros; rfl
theorem x1u6 : type_of% (fun v0 v1 v2 v3 => @x1j.eq_2 (Go.Op.insert v0 v1 v2 v3) (by nofun)) := by intros; rfl
theorem x1ql : type_of% (fun v0 v1 => @x1j.eq_2 (Go.Op.load v0 v1) (by nofun)) := by intros; rfl
theorem x1qo : type_of% (fun v0 v1 v2 => @x1j.eq_2 (Go.Op.store v0 v1 v2) (by nofun)) := by intros; rfl
theorem x1pk : type_of% (fun v0 => @x1j.eq_2 (Go.Op.ready v0) (by nofun)) := by intros; rfl
theorem x1rv : type_of% (fun v0 => @x1j.eq_2 (Go.Op.waits v0) (by nofun)) := by intros; rfl
theorem x1q6 : type_of% (fun v0 => @x1j.eq_2 (Go.Op.nilCheck v0) (by nofun)) := by intros; rfl
theorem x1tq : type_of% (fun v0 v1 v2 v3 v4 => @x1j.eq_2 (Go.Op.binOp v0 v1 v2 v3 v4) (by nofun)) := by intros; rfl
theorem x1sj : type_of% (fun v0 v1 v2 => @x1j.eq_2 (Go.Op.unOp v0 v1 v2) (by nofun)) := by intros; rfl
theorem x1pd : type_of% (fun v0 v1 v2 => @x1j.eq_2 (Go.Op.convert v0 v1 v2) (by nofun)) := by intros; rfl
theorem x1ti : type_of% (fun v0 v1 => @x1j.eq_2 (Go.Op.sliceToArrayPointer v0 v1) (by nofun)) := by intros; rfl
theorem x1pt : type_of% (fun v0 v1 => @x1j.eq_2 (Go.Op.makeInterface v0 v1) (by nofun)) := by intros; rfl
theorem x1sq : type_of% (fun v0 v1 v2 => @x1j.eq_2 (Go.Op.makeFunc v0 v1 v2) (by nofun)) := by intros; rfl
theorem x1qp : type_of% (fun v0 v1 => @x1j.eq_2 (Go.Op.makeMap v0 v1) (by nofun)) := by intros; rfl
theorem x1qt : type_of% (fun v0 v1 => @x1j.eq_2 (Go.Op.makeChan v0 v1) (by nofun)) := by intros; rfl
theorem x1rl : type_of% (fun v0 v1 v2 => @x1j.eq_2 (Go.Op.makeSlice v0 v1 v2) (by nofun)) := by intros; rfl
theorem x1pa : type_of% (fun v0 v1 v2 v3 v4 => @x1j.eq_2 (Go.Op.slice v0 v1 v2 v3 v4) (by nofun)) := by intros; rfl
theorem x1sz : type_of% (fun v0 v1 v2 => @x1j.eq_2 (Go.Op.fieldAddr v0 v1 v2) (by nofun)) := by intros; rfl
theorem x1sm : type_of% (fun v0 v1 v2 => @x1j.eq_2 (Go.Op.field v0 v1 v2) (by nofun)) := by intros; rfl
theorem x1pm : type_of% (fun v0 v1 v2 => @x1j.eq_2 (Go.Op.indexAddr v0 v1 v2) (by nofun)) := by intros; rfl
theorem x1sb : type_of% (fun v0 v1 v2 => @x1j.eq_2 (Go.Op.index v0 v1 v2) (by nofun)) := by intros; rfl
theorem x1ud : type_of% (fun v0 v1 v2 v3 => @x1j.eq_2 (Go.Op.lookup v0 v1 v2 v3) (by nofun)) := by intros; rfl
theorem x1ua : type_of% (fun v0 v1 v2 v3 => @x1j.eq_2 (Go.Op.mapUpdate v0 v1 v2 v3) (by nofun)) := by intros; rfl
theorem x1th : type_of% (fun v0 v1 v2 => @x1j.eq_2 (Go.Op.mapEntry v0 v1 v2) (by nofun)) := by intros; rfl
theorem x1q7 : type_of% (fun v0 v1 v2 v3 => @x1j.eq_2 (Go.Op.entryStore v0 v1 v2 v3) (by nofun)) := by intros; rfl
theorem x1uo : type_of% (fun v0 v1 => @x1j.eq_2 (Go.Op.range v0 v1) (by nofun)) := by intros; rfl
theorem x1sn : type_of% (fun v0 v1 => @x1j.eq_2 (Go.Op.next v0 v1) (by nofun)) := by intros; rfl
theorem x1r2 : type_of% (fun v0 => @x1j.eq_2 (Go.Op.entry v0) (by nofun)) := by intros; rfl
theorem x1r5 : type_of% (fun v0 v1 v2 v3 => @x1j.eq_2 (Go.Op.typeAssert v0 v1 v2 v3) (by nofun)) := by intros; rfl
theorem x1qi : type_of% (fun v0 v1 => @x1j.eq_2 (Go.Op.extract v0 v1) (by nofun)) := by intros; rfl
theorem x1pz : type_of% (fun v0 => @x1j.eq_2 (Go.Op.go v0) (by nofun)) := by intros; rfl
theorem x1qk : type_of% (fun v0 => @x1j.eq_2 (Go.Op.defer v0) (by nofun)) := by intros; rfl
theorem x1p4 : type_of% (fun v0 => @x1j.eq_2 (Go.Op.panic v0) (by nofun)) := by intros; rfl
theorem x1r7 : type_of% (fun v0 v1 => @x1j.eq_2 (Go.Op.send v0 v1) (by nofun)) := by intros; rfl
theorem x1pe : type_of% (fun v0 v1 v2 => @x1j.eq_2 (Go.Op.recv v0 v1 v2) (by nofun)) := by intros; rfl
theorem x1ru : type_of% (fun v0 v1 => @x1j.eq_2 (Go.Op.select v0 v1) (by nofun)) := by intros; rfl
theorem x1pw : type_of% (fun v0 v1 => @xm.eq_3 v0 (A.d D.undef) v1 (by nofun)) := by intros; rfl
theorem x1tu : type_of% (fun v0 v1 v2 v3 => @xm.eq_3 v0 (A.d (D.int v2 v3)) v1 (by nofun)) := by intros; rfl
theorem x1s0 : type_of% (fun v0 v1 v2 => @xm.eq_3 v0 (A.d (D.bool v2)) v1 (by nofun)) := by intros; rfl
theorem x1t1 : type_of% (fun v0 v1 v2 => @xm.eq_3 v0 (A.d (D.str v2)) v1 (by nofun)) := by intros; rfl
theorem x1pc : type_of% (fun v0 v1 v2 v3 => @xm.eq_3 v0 (A.d (D.ivs v2 v3)) v1 (by nofun)) := by intros; rfl
theorem x1qf : type_of% (fun v0 v1 v2 => @xm.eq_3 v0 (A.d (D.iptr v2)) v1 (by nofun)) := by intros; rfl
theorem x1s5 : type_of% (fun v0 v1 => @xm.eq_3 v0 (A.d D.nilp) v1 (by nofun)) := by intros; rfl
theorem x1uh : type_of% (fun v0 v1 v2 v3 => @xm.eq_3 v0 (A.d (D.fn v2 v3)) v1 (by nofun)) := by intros; rfl
theorem x1tb : type_of% (fun v0 v1 => @xm.eq_3 v0 (A.d D.nilfn) v1 (by nofun)) := by intros; rfl
theorem x1q5 : type_of% (fun v0 v1 => @xm.eq_3 v0 (A.d D.nili) v1 (by nofun)) := by intros; rfl
theorem x1u2 : type_of% (fun v0 v1 => @xm.eq_3 v0 (A.d D.nilm) v1 (by nofun)) := by intros; rfl
theorem x1u1 : type_of% (fun v0 v1 v2 v3 => @xm.eq_3 v0 (A.d (D.ifc v2 v3)) v1 (by nofun)) := by intros; rfl
theorem x1p7 : type_of% (fun v0 v1 v2 v3 v4 v5 => @xm.eq_3 v0 (A.sl v2 v3 v4 v5) v1 (by nofun)) := by intros; rfl
theorem x1ub : type_of% (fun v0 v1 v2 v3 v4 => @xm.eq_3 v0 (A.ptr v2 v3 v4) v1 (by nofun)) := by intros; rfl
theorem x1rw : type_of% (fun v0 v1 v2 => @xm.eq_3 v0 (A.mp v2) v1 (by nofun)) := by intros; rfl
theorem x1rx : type_of% (fun v0 v1 v2 v3 => @xm.eq_3 v0 (A.clo v2 v3) v1 (by nofun)) := by intros; rfl
theorem x1q4 : type_of% (fun v0 v1 v2 => @xm.eq_3 v0 (A.agg v2) v1 (by nofun)) := by intros; rfl
theorem x1tm : type_of% (fun v0 v1 v2 => @xm.eq_3 v0 (A.tup v2) v1 (by nofun)) := by intros; rfl
theorem x1p6 : type_of% (fun v0 v1 => @xm.eq_3 v0 A.junk v1 (by nofun)) := by intros; rfl
theorem x1re : type_of% (fun v0 v1 v2 v3 => @mapO.eq_3 v0 (O.arr v1 v2 v3) (by nofun) (by nofun)) := by intros; rfl
theorem x1te : type_of% (fun v0 v1 v2 v3 => @mapO.eq_3 v0 (O.ice v1 v2 v3) (by nofun) (by nofun)) := by intros; rfl
theorem x1q9 : type_of% (fun v0 v1 => @mapO.eq_3 v0 (O.mp v1) (by nofun) (by nofun)) := by intros; rfl
theorem x1qa : type_of% (fun v0 => @mapO.eq_3 v0 O.void (by nofun) (by nofun)) := by intros; rfl
theorem x1sw : type_of% (fun v0 v1 => @frzA.eq_2 v0 (A.d v1) (by nofun)) := by intros; rfl
theorem x1qm : type_of% (fun v0 v1 v2 v3 v4 => @frzA.eq_2 v0 (A.sl v1 v2 v3 v4) (by nofun)) := by intros; rfl
theorem x1td : type_of% (fun v0 v1 v2 v3 => @frzA.eq_2 v0 (A.ptr v1 v2 v3) (by nofun)) := by intros; rfl
theorem x1tk : type_of% (fun v0 v1 => @frzA.eq_2 v0 (A.mp v1) (by nofun)) := by intros; rfl
theorem x1pn : type_of% (fun v0 v1 v2 => @frzA.eq_2 v0 (A.clo v1 v2) (by nofun)) := by intros; rfl
theorem x1qx : type_of% (fun v0 v1 => @frzA.eq_2 v0 (A.tup v1) (by nofun)) := by intros; rfl
theorem x1qu : type_of% (fun v0 => @frzA.eq_2 v0 A.junk (by nofun)) := by intros; rfl
theorem x1s8 : type_of% (fun v0 v1 v2 v3 v4 v5 v6 => @x49.eq_4 v0 v1 v2 (Go.Callee.invoke v5 v6) v3 v4 (by nofun) (by nofun)) := by intros; rfl
theorem UN0 : type_of% (AI @x1bl (AI @x1eo (AI @x1cl (AI @x16l (AI @x1bs (AI @x1iw (AI @x1mc (AI @x1dv (AI @x1mt (AI @x1ca (AI @x1n9 (AI @x1eh (AI @aLen.eq_def (AI @x112 (AI @x1cg (AI @x1ah (AI @x1eu (AI @x17a (AI @x14c (AI @x1f2 (AI @x16y (AI @x19f (AI @x123 (AI @x11e (AI @x13n (AI @x1ea (AI @x1et (AI @x1f0 (AI @x1gi (AI @x1nf (AI @x1mn (AI @x1mb (AI @List.replicate.eq_1.{0} (AI @List.replicate.eq_2.{0} (AI @List.range'.eq_1 (AI @List.range'.eq_2 (AI True.intro (AI @xpc.eq_1 (AI @xpc.eq_2 @xxk.eq_1))))))))))))))))))))))))))))))))))))))) :=
 ⟨@x1bl,@x1eo,@x1cl,@x16l,@x1bs,@x1iw,@x1mc,@x1dv,@x1mt,@x1ca,@x1n9,@x1eh,@aLen.eq_def,@x112,@x1cg,@x1ah,@x1eu,@x17a,@x14c,@x1f2,@x16y,@x19f,@x123,@x11e,@x13n,@x1ea,@x1et,@x1f0,@x1gi,@x1nf,@x1mn,@x1mb,@List.replicate.eq_1.{0},@List.replicate.eq_2.{0},@List.range'.eq_1,@List.range'.eq_2,True.intro,@xpc.eq_1,@xpc.eq_2,@xxk.eq_1⟩
theorem UN1 : type_of% (AI @aPut.eq_1 (AI @aPut.eq_2 (AI @x6x.eq_1 (AI @x6x.eq_2 (AI @UNx1 (AI @UNx2 (AI @UNx3 (AI @UNx4 (AI @outA.eq_1 (AI @UNx5 (AI @UNx6 (AI @UNx7 (AI @UNx8 (AI @UNx9 (AI @x1yc (AI @x1x6 (AI @outS.eq_1 (AI @x1wu (AI @x1yg (AI @x1zi (AI @x1yi (AI @x1xv (AI @x1wy (AI @x1x4 (AI @x1xh (AI @x1yv (AI @x1xq (AI @x1zg (AI @x1z7 (AI @outS.eq_3 (AI @outS.eq_4 (AI @outS.eq_5 (AI @x1zh (AI @x1xm (AI @x1z5 (AI @x1zc (AI @xmf.eq_1 (AI @xmf.eq_2 (AI @idsA.eq_1 @idsA.eq_2))))))))))))))))))))))))))))))))))))))) :=
 ⟨@aPut.eq_1,@aPut.eq_2,@x6x.eq_1,@x6x.eq_2,@UNx1,@UNx2,@UNx3,@UNx4,@outA.eq_1,@UNx5,@UNx6,@UNx7,@UNx8,@UNx9,@x1yc,@x1x6,@outS.eq_1,@x1wu,@x1yg,@x1zi,@x1yi,@x1xv,@x1wy,@x1x4,@x1xh,@x1yv,@x1xq,@x1zg,@x1z7,@outS.eq_3,@outS.eq_4,@outS.eq_5,@x1zh,@x1xm,@x1z5,@x1zc,@xmf.eq_1,@xmf.eq_2,@idsA.eq_1,@idsA.eq_2⟩
theorem UN2 : type_of% (AI @idsA.eq_3 (AI @idsA.eq_4 (AI @idsA.eq_5 (AI @idsA.eq_6 (AI @idsA.eq_7 (AI @idsA.eq_8 (AI @idsL.eq_1 (AI @idsL.eq_2 (AI @mapA.eq_1 (AI @mapA.eq_2 (AI @mapA.eq_3 (AI @mapA.eq_4 (AI @mapA.eq_5 (AI @mapA.eq_6 (AI @mapA.eq_7 (AI @mapA.eq_8 (AI @xj.eq_1 (AI @xj.eq_2 (AI @x1c.eq_1 (AI @x1c.eq_2 (AI @x1c.eq_3 (AI @x1c.eq_4 (AI @x1c.eq_5 (AI @x1c.eq_6 (AI @x1c.eq_7 (AI @x1c.eq_8 (AI @x7i.eq_1 (AI @xti.eq_1 (AI @xx.eq_1 (AI @x3a.eq_1 (AI @x58.eq_1 (AI @x58.eq_2 (AI @x2r.eq_1 (AI @x2r.eq_2 (AI @x2r.eq_3 (AI @x2r.eq_4 (AI @x2r.eq_5 (AI @x2r.eq_6 (AI @x7.eq_1 @x7.eq_2))))))))))))))))))))))))))))))))))))))) :=
 ⟨@idsA.eq_3,@idsA.eq_4,@idsA.eq_5,@idsA.eq_6,@idsA.eq_7,@idsA.eq_8,@idsL.eq_1,@idsL.eq_2,@mapA.eq_1,@mapA.eq_2,@mapA.eq_3,@mapA.eq_4,@mapA.eq_5,@mapA.eq_6,@mapA.eq_7,@mapA.eq_8,@xj.eq_1,@xj.eq_2,@x1c.eq_1,@x1c.eq_2,@x1c.eq_3,@x1c.eq_4,@x1c.eq_5,@x1c.eq_6,@x1c.eq_7,@x1c.eq_8,@x7i.eq_1,@xti.eq_1,@xx.eq_1,@x3a.eq_1,@x58.eq_1,@x58.eq_2,@x2r.eq_1,@x2r.eq_2,@x2r.eq_3,@x2r.eq_4,@x2r.eq_5,@x2r.eq_6,@x7.eq_1,@x7.eq_2⟩
theorem UN3 : type_of% (AI @xcr.eq_1 (AI @xcr.eq_2 (AI @xcr.eq_3 (AI @x1xl (AI @x3m.eq_1 (AI @x3m.eq_2 (AI @x1y4 (AI @x1yx (AI @x1y9 (AI @x1ze (AI @x1za (AI @x1yo (AI @x1yp (AI @x1yq (AI @x1x2 (AI @x1yn (AI @x1z6 (AI @x1zd (AI @x1ye (AI @x1x8 (AI @x1y5 (AI @x1yu (AI @x1xy (AI @x1yh (AI @tidy.eq_1 (AI @tidy.eq_2 (AI @x1wq (AI @x1yd (AI @x1y2 (AI @x2q.eq_1 (AI @x1y6 (AI @x1yr (AI @x1xk (AI @x1yj (AI @x1xj (AI @x1xw (AI @x1x3 (AI @x2q.eq_3 (AI @x7v.eq_1 @x1yb))))))))))))))))))))))))))))))))))))))) :=
 ⟨@xcr.eq_1,@xcr.eq_2,@xcr.eq_3,@x1xl,@x3m.eq_1,@x3m.eq_2,@x1y4,@x1yx,@x1y9,@x1ze,@x1za,@x1yo,@x1yp,@x1yq,@x1x2,@x1yn,@x1z6,@x1zd,@x1ye,@x1x8,@x1y5,@x1yu,@x1xy,@x1yh,@tidy.eq_1,@tidy.eq_2,@x1wq,@x1yd,@x1y2,@x2q.eq_1,@x1y6,@x1yr,@x1xk,@x1yj,@x1xj,@x1xw,@x1x3,@x2q.eq_3,@x7v.eq_1,@x1yb⟩
theorem UN4 : type_of% (AI @x1xr (AI @x1wt (AI @x1wp (AI @x1xt (AI @x1zb (AI @x1yk (AI @xcd.eq_1 (AI @xe0.eq_1 (AI @xru.eq_1 (AI @xj4.eq_1 (AI @x1ya (AI @x1x9 (AI @x1x0 (AI @x1z2 (AI @x1z1 (AI @x1y3 (AI @x1zf (AI @xsg.eq_1 (AI @x7s.eq_1 (AI @x1yl (AI @x1xx (AI @x1yw (AI @x1ws (AI @x1yz (AI @x1xg (AI @x1z8 (AI @xoj.eq_1 (AI @xg4.eq_1 (AI @x3b.eq_1 (AI @x3b.eq_2 (AI @x3b.eq_3 (AI @x3b.eq_4 (AI @xex.eq_1 (AI @xdu.eq_1 (AI @xot.eq_1 (AI @xcw.eq_1 (AI @xcw.eq_2 (AI @xgl.eq_1 (AI @x8w.eq_1 @x47.eq_1))))))))))))))))))))))))))))))))))))))) :=
 ⟨@x1xr,@x1wt,@x1wp,@x1xt,@x1zb,@x1yk,@xcd.eq_1,@xe0.eq_1,@xru.eq_1,@xj4.eq_1,@x1ya,@x1x9,@x1x0,@x1z2,@x1z1,@x1y3,@x1zf,@xsg.eq_1,@x7s.eq_1,@x1yl,@x1xx,@x1yw,@x1ws,@x1yz,@x1xg,@x1z8,@xoj.eq_1,@xg4.eq_1,@x3b.eq_1,@x3b.eq_2,@x3b.eq_3,@x3b.eq_4,@xex.eq_1,@xdu.eq_1,@xot.eq_1,@xcw.eq_1,@xcw.eq_2,@xgl.eq_1,@x8w.eq_1,@x47.eq_1⟩
theorem UN5 : type_of% (AI @x47.eq_2 (AI @x47.eq_3 (AI @frzL.eq_1 (AI @x6i.eq_1 (AI @x6i.eq_2 (AI @frz.eq_1 (AI @frz.eq_2 (AI @frz.eq_3 (AI @frz.eq_4 (AI @x1xo (AI @x1wz (AI @x1xn (AI @x1xs (AI @x1yt (AI @frz0.eq_1 (AI @frz0.eq_2 (AI @x1wo (AI @x1z4 (AI @x1xz (AI @x1wn (AI @x1xa (AI @x1y1 (AI @deep.eq_1 (AI @xh.eq_1 (AI @x1x7 (AI @x1xf (AI @x1y0 (AI @x1xc (AI @x1x1 (AI @x1yf (AI @x1z0 (AI @x17.eq_1 (AI @x2f.eq_1 (AI @x2f.eq_2 (AI @x2f.eq_3 (AI @x2f.eq_4 (AI @x1wr (AI @x1xd (AI @x1ym @x1ww))))))))))))))))))))))))))))))))))))))) :=
 ⟨@x47.eq_2,@x47.eq_3,@frzL.eq_1,@x6i.eq_1,@x6i.eq_2,@frz.eq_1,@frz.eq_2,@frz.eq_3,@frz.eq_4,@x1xo,@x1wz,@x1xn,@x1xs,@x1yt,@frz0.eq_1,@frz0.eq_2,@x1wo,@x1z4,@x1xz,@x1wn,@x1xa,@x1y1,@deep.eq_1,@xh.eq_1,@x1x7,@x1xf,@x1y0,@x1xc,@x1x1,@x1yf,@x1z0,@x17.eq_1,@x2f.eq_1,@x2f.eq_2,@x2f.eq_3,@x2f.eq_4,@x1wr,@x1xd,@x1ym,@x1ww⟩
theorem UN6 : type_of% (AI @x1rg (AI @x1rd (AI @x1r9 (AI @x1t2 (AI @x1ss (AI @x1st (AI @x1u5 (AI @x1t8 (AI @x1rj (AI @x1uc (AI @x1q2 (AI @x1r4 (AI @xah.eq_1 (AI @x1qz (AI @x1p8 (AI @x1pj (AI @x1rc (AI @x1tx (AI @x1rb (AI @x1ro (AI @x4p.eq_1 (AI @x4p.eq_2 (AI @x4p.eq_3 (AI @x1sl (AI @x1ue (AI @x1u0 (AI @x1rk (AI @xbd.eq_1 (AI @xbd.eq_2 (AI @xng.eq_1 (AI @xng.eq_2 (AI @xcs.eq_1 (AI @xcs.eq_2 (AI @tupA.eq_1 (AI @x1tw (AI @x1q3 (AI @x7l.eq_1 (AI @x7l.eq_2 (AI @x7l.eq_3 @x7l.eq_4))))))))))))))))))))))))))))))))))))))) :=
 ⟨@x1rg,@x1rd,@x1r9,@x1t2,@x1ss,@x1st,@x1u5,@x1t8,@x1rj,@x1uc,@x1q2,@x1r4,@xah.eq_1,@x1qz,@x1p8,@x1pj,@x1rc,@x1tx,@x1rb,@x1ro,@x4p.eq_1,@x4p.eq_2,@x4p.eq_3,@x1sl,@x1ue,@x1u0,@x1rk,@xbd.eq_1,@xbd.eq_2,@xng.eq_1,@xng.eq_2,@xcs.eq_1,@xcs.eq_2,@tupA.eq_1,@x1tw,@x1q3,@x7l.eq_1,@x7l.eq_2,@x7l.eq_3,@x7l.eq_4⟩
theorem UN7 : type_of% (AI @xgq.eq_1 (AI @xgq.eq_2 (AI @opds.eq_1 (AI @opds.eq_2 (AI @opds.eq_3 (AI @opds.eq_4 (AI @opds.eq_5 (AI @opds.eq_6 (AI @opds.eq_7 (AI @opds.eq_8 (AI @opds.eq_9 (AI @opds.eq_10 (AI @opds.eq_11 (AI @opds.eq_12 (AI @opds.eq_13 (AI @opds.eq_14 (AI @opds.eq_15 (AI @opds.eq_16 (AI @opds.eq_17 (AI @opds.eq_18 (AI @opds.eq_19 (AI @opds.eq_20 (AI @opds.eq_21 (AI @opds.eq_22 (AI @opds.eq_23 (AI @opds.eq_24 (AI @evOp.eq_1 (AI @x56.eq_1 (AI @one.eq_1 (AI @two.eq_1 (AI @xrh.eq_1 (AI @x1rt (AI @x1qw (AI @x1ts (AI @x1qc (AI @xnz.eq_1 (AI @xno.eq_1 (AI @x38.eq_1 (AI @x1qq @x1s6))))))))))))))))))))))))))))))))))))))) :=
 ⟨@xgq.eq_1,@xgq.eq_2,@opds.eq_1,@opds.eq_2,@opds.eq_3,@opds.eq_4,@opds.eq_5,@opds.eq_6,@opds.eq_7,@opds.eq_8,@opds.eq_9,@opds.eq_10,@opds.eq_11,@opds.eq_12,@opds.eq_13,@opds.eq_14,@opds.eq_15,@opds.eq_16,@opds.eq_17,@opds.eq_18,@opds.eq_19,@opds.eq_20,@opds.eq_21,@opds.eq_22,@opds.eq_23,@opds.eq_24,@evOp.eq_1,@x56.eq_1,@one.eq_1,@two.eq_1,@xrh.eq_1,@x1rt,@x1qw,@x1ts,@x1qc,@xnz.eq_1,@xno.eq_1,@x38.eq_1,@x1qq,@x1s6⟩
theorem UN8 : type_of% (AI @x1rh (AI @x1pi (AI @x1sg (AI @x1qg (AI @x1tn (AI @x1s2 (AI @x1qb (AI @x1tl (AI @x1r3 (AI @x1um (AI @x1po (AI @x1tt (AI @x1tj (AI @x1ty (AI @x1q0 (AI @x1qr (AI @x1t9 (AI @x1sa (AI @x1s1 (AI @x1ui (AI @aNew.eq_1 (AI @x8t.eq_1 (AI @x8t.eq_2 (AI @x8t.eq_3 (AI @x8t.eq_4 (AI @xs5.eq_1 (AI @xjz.eq_1 (AI @xxc.eq_1 (AI @x27.eq_1 (AI @x27.eq_2 (AI @x27.eq_3 (AI @x27.eq_4 (AI @x27.eq_5 (AI @x27.eq_6 (AI @x27.eq_7 (AI @x27.eq_8 (AI @x27.eq_9 (AI @x27.eq_10 (AI @x27.eq_11 @x1j.eq_1))))))))))))))))))))))))))))))))))))))) :=
 ⟨@x1rh,@x1pi,@x1sg,@x1qg,@x1tn,@x1s2,@x1qb,@x1tl,@x1r3,@x1um,@x1po,@x1tt,@x1tj,@x1ty,@x1q0,@x1qr,@x1t9,@x1sa,@x1s1,@x1ui,@aNew.eq_1,@x8t.eq_1,@x8t.eq_2,@x8t.eq_3,@x8t.eq_4,@xs5.eq_1,@xjz.eq_1,@xxc.eq_1,@x27.eq_1,@x27.eq_2,@x27.eq_3,@x27.eq_4,@x27.eq_5,@x27.eq_6,@x27.eq_7,@x27.eq_8,@x27.eq_9,@x27.eq_10,@x27.eq_11,@x1j.eq_1⟩
theorem UN9 : type_of% (AI @x1pv (AI @x1si (AI @x1u3 (AI @x1su (AI @x1tc (AI @x1rr (AI @x1sv (AI @x1u6 (AI @x1ql (AI @x1qo (AI @x1pk (AI @x1rv (AI @x1q6 (AI @x1tq (AI @x1sj (AI @x1pd (AI @x1ti (AI @x1pt (AI @x1sq (AI @x1qp (AI @x1qt (AI @x1rl (AI @x1pa (AI @x1sz (AI @x1sm (AI @x1pm (AI @x1sb (AI @x1ud (AI @x1ua (AI @x1th (AI @x1q7 (AI @x1uo (AI @x1sn (AI @x1r2 (AI @x1r5 (AI @x1qi (AI @x1pz (AI @x1qk (AI @x1p4 @x1r7))))))))))))))))))))))))))))))))))))))) :=
 ⟨@x1pv,@x1si,@x1u3,@x1su,@x1tc,@x1rr,@x1sv,@x1u6,@x1ql,@x1qo,@x1pk,@x1rv,@x1q6,@x1tq,@x1sj,@x1pd,@x1ti,@x1pt,@x1sq,@x1qp,@x1qt,@x1rl,@x1pa,@x1sz,@x1sm,@x1pm,@x1sb,@x1ud,@x1ua,@x1th,@x1q7,@x1uo,@x1sn,@x1r2,@x1r5,@x1qi,@x1pz,@x1qk,@x1p4,@x1r7⟩
theorem UN10 : type_of% (AI @x1pe (AI @x1ru (AI @back.eq_1 (AI @x18.eq_1 (AI @x18.eq_2 (AI @x18.eq_3 (AI @x5.eq_1 (AI @closed.eq_1 (AI @xao.eq_1 (AI @xm.eq_1 (AI @xm.eq_2 (AI @x1pw (AI @x1tu (AI @x1s0 (AI @x1t1 (AI @x1pc (AI @x1qf (AI @x1s5 (AI @x1uh (AI @x1tb (AI @x1q5 (AI @x1u2 (AI @x1u1 (AI @x1p7 (AI @x1ub (AI @x1rw (AI @x1rx (AI @x1q4 (AI @x1tm (AI @x1p6 (AI @xa.eq_1 (AI @xa.eq_2 (AI @pack.eq_1 (AI @mapO.eq_1 (AI @mapO.eq_2 (AI @x1re (AI @x1te (AI @x1q9 (AI @x1qa @x2g.eq_1))))))))))))))))))))))))))))))))))))))) :=
 ⟨@x1pe,@x1ru,@back.eq_1,@x18.eq_1,@x18.eq_2,@x18.eq_3,@x5.eq_1,@closed.eq_1,@xao.eq_1,@xm.eq_1,@xm.eq_2,@x1pw,@x1tu,@x1s0,@x1t1,@x1pc,@x1qf,@x1s5,@x1uh,@x1tb,@x1q5,@x1u2,@x1u1,@x1p7,@x1ub,@x1rw,@x1rx,@x1q4,@x1tm,@x1p6,@xa.eq_1,@xa.eq_2,@pack.eq_1,@mapO.eq_1,@mapO.eq_2,@x1re,@x1te,@x1q9,@x1qa,@x2g.eq_1⟩
theorem UN11 : type_of% (AI @frzA.eq_1 (AI @x1sw (AI @x1qm (AI @x1td (AI @x1tk (AI @x1pn (AI @x1qx (AI @x1qu (AI @x6e.eq_1 (AI @x6e.eq_2 (AI @memD.eq_1 (AI @x2m.eq_1 (AI @xwg.eq_1 (AI @x49.eq_1 (AI @x49.eq_2 (AI @x49.eq_3 @x1s8)))))))))))))))) :=
 ⟨@frzA.eq_1,@x1sw,@x1qm,@x1td,@x1tk,@x1pn,@x1qx,@x1qu,@x6e.eq_1,@x6e.eq_2,@memD.eq_1,@x2m.eq_1,@xwg.eq_1,@x49.eq_1,@x49.eq_2,@x49.eq_3,@x1s8⟩
theorem UN : type_of% (AI @UN0 (AI @UN1 (AI @UN2 (AI @UN3 (AI @UN4 (AI @UN5 (AI @UN6 (AI @UN7 (AI @UN8 (AI @UN9 (AI @UN10 @UN11))))))))))) :=
 ⟨@UN0,@UN1,@UN2,@UN3,@UN4,@UN5,@UN6,@UN7,@UN8,@UN9,@UN10,@UN11⟩
theorem x1wm : type_of% (fun v0 v1 v2 v3 v4 => @slim.eq_9 v0 (Go.Code.rangeFunc v1 v2 v3 v4) (by nofun) (by nofun) (by nofun) (by nofun) (by nofun) (by nofun) (by nofun) (by nofun)) := (fun v0 v1 v2 v3 v4 => @slim.eq_9 v0 (Go.Code.rangeFunc v1 v2 v3 v4) (by nofun) (by nofun) (by nofun) (by nofun) (by nofun) (by nofun) (by nofun) (by nofun))
theorem x1xi : type_of% (fun v0 v1 => @slim.eq_9 v0 (Go.Code.scope v1) (by nofun) (by nofun) (by nofun) (by nofun) (by nofun) (by nofun) (by nofun) (by nofun)) := (fun v0 v1 => @slim.eq_9 v0 (Go.Code.scope v1) (by nofun) (by nofun) (by nofun) (by nofun) (by nofun) (by nofun) (by nofun) (by nofun))
theorem x1wx : type_of% (fun v0 v1 => @slim.eq_9 v0 (Go.Code.label v1) (by nofun) (by nofun) (by nofun) (by nofun) (by nofun) (by nofun) (by nofun) (by nofun)) := (fun v0 v1 => @slim.eq_9 v0 (Go.Code.label v1) (by nofun) (by nofun) (by nofun) (by nofun) (by nofun) (by nofun) (by nofun) (by nofun))
theorem x1wl : type_of% (fun v0 v1 => @slim.eq_9 v0 (Go.Code.goto v1) (by nofun) (by nofun) (by nofun) (by nofun) (by nofun) (by nofun) (by nofun) (by nofun)) := (fun v0 v1 => @slim.eq_9 v0 (Go.Code.goto v1) (by nofun) (by nofun) (by nofun) (by nofun) (by nofun) (by nofun) (by nofun) (by nofun))
theorem x1x5 : type_of% (fun v0 v1 => @slim.eq_9 v0 (Go.Code.refuse v1) (by nofun) (by nofun) (by nofun) (by nofun) (by nofun) (by nofun) (by nofun) (by nofun)) := (fun v0 v1 => @slim.eq_9 v0 (Go.Code.refuse v1) (by nofun) (by nofun) (by nofun) (by nofun) (by nofun) (by nofun) (by nofun) (by nofun))
theorem x1z9 : type_of% (@x1f.eq_5 Go.Code.skip (by nofun) (by nofun) (by nofun) (by nofun)) := (@x1f.eq_5 Go.Code.skip (by nofun) (by nofun) (by nofun) (by nofun))
theorem x1wv : type_of% (fun v0 v1 v2 => @x1f.eq_5 (Go.Code.region v0 v1 v2) (by nofun) (by nofun) (by nofun) (by nofun)) := (fun v0 v1 v2 => @x1f.eq_5 (Go.Code.region v0 v1 v2) (by nofun) (by nofun) (by nofun) (by nofun))
theorem x1z3 : type_of% (fun v0 v1 v2 v3 => @x1f.eq_5 (Go.Code.rangeFunc v0 v1 v2 v3) (by nofun) (by nofun) (by nofun) (by nofun)) := (fun v0 v1 v2 v3 => @x1f.eq_5 (Go.Code.rangeFunc v0 v1 v2 v3) (by nofun) (by nofun) (by nofun) (by nofun))
theorem x1xb : type_of% (fun v0 => @x1f.eq_5 (Go.Code.exit v0) (by nofun) (by nofun) (by nofun) (by nofun)) := (fun v0 => @x1f.eq_5 (Go.Code.exit v0) (by nofun) (by nofun) (by nofun) (by nofun))
theorem x1rz : type_of% (fun v0 => @x1f.eq_5 (Go.Code.scope v0) (by nofun) (by nofun) (by nofun) (by nofun)) := (fun v0 => @x1f.eq_5 (Go.Code.scope v0) (by nofun) (by nofun) (by nofun) (by nofun))
theorem x1qn : type_of% (fun v0 => @x1f.eq_5 (Go.Code.label v0) (by nofun) (by nofun) (by nofun) (by nofun)) := (fun v0 => @x1f.eq_5 (Go.Code.label v0) (by nofun) (by nofun) (by nofun) (by nofun))
theorem x1ul : type_of% (fun v0 => @x1f.eq_5 (Go.Code.goto v0) (by nofun) (by nofun) (by nofun) (by nofun)) := (fun v0 => @x1f.eq_5 (Go.Code.goto v0) (by nofun) (by nofun) (by nofun) (by nofun))
theorem x1u9 : type_of% (@x1f.eq_5 Go.Code.ret (by nofun) (by nofun) (by nofun) (by nofun)) := (@x1f.eq_5 Go.Code.ret (by nofun) (by nofun) (by nofun) (by nofun))
theorem x1sr : type_of% (fun v0 => @x1f.eq_5 (Go.Code.refuse v0) (by nofun) (by nofun) (by nofun) (by nofun)) := (fun v0 => @x1f.eq_5 (Go.Code.refuse v0) (by nofun) (by nofun) (by nofun) (by nofun))
theorem SLM0 : type_of% (AI @Option.getD_some.{0} (AI @List.length_nil.{0} (AI @Nat.add_zero (AI @Nat.zero_add (AI @List.map_cons.{0,0} (AI @List.map_nil.{0,0} (AI @List.getElem?_cons_zero.{0} (AI @List.getElem?_cons_succ.{0} (AI @Option.bind_some.{0,0} (AI @Bool.false_eq_true (AI @if_false.{0} (AI @if_true.{0} (AI @List.length_cons.{0} (AI @List.replicate.eq_1.{0} (AI @List.replicate.eq_2.{0} (AI @List.cons_append.{0} (AI @List.nil_append.{0} (AI @List.append_nil.{0} (AI @List.getD_cons_zero.{0} (AI @List.getD_cons_succ.{0} (AI @x1h.eq_1 (AI @x2c.eq_1 (AI @lpOf.eq_1 (AI @xu.eq_1 (AI @slim.eq_1 (AI @slim.eq_2 (AI @slim.eq_3 (AI @slim.eq_4 (AI @slim.eq_5 (AI @slim.eq_6 (AI @slim.eq_7 (AI @slim.eq_8 (AI @x1wm (AI @x1xi (AI @x1wx (AI @x1wl (AI @x1x5 (AI @x1f.eq_1 (AI @x1f.eq_2 @x1f.eq_3))))))))))))))))))))))))))))))))))))))) :=
 ⟨@Option.getD_some.{0},@List.length_nil.{0},@Nat.add_zero,@Nat.zero_add,@List.map_cons.{0,0},@List.map_nil.{0,0},@List.getElem?_cons_zero.{0},@List.getElem?_cons_succ.{0},@Option.bind_some.{0,0},@Bool.false_eq_true,@if_false.{0},@if_true.{0},@List.length_cons.{0},@List.replicate.eq_1.{0},@List.replicate.eq_2.{0},@List.cons_append.{0},@List.nil_append.{0},@List.append_nil.{0},@List.getD_cons_zero.{0},@List.getD_cons_succ.{0},@x1h.eq_1,@x2c.eq_1,@lpOf.eq_1,@xu.eq_1,@slim.eq_1,@slim.eq_2,@slim.eq_3,@slim.eq_4,@slim.eq_5,@slim.eq_6,@slim.eq_7,@slim.eq_8,@x1wm,@x1xi,@x1wx,@x1wl,@x1x5,@x1f.eq_1,@x1f.eq_2,@x1f.eq_3⟩
theorem SLM1 : type_of% (AI @x1f.eq_4 (AI @x1z9 (AI @x1wv (AI @x1z3 (AI @x1xb (AI @x1rz (AI @x1qn (AI @x1ul (AI @x1u9 (AI @x1sr (AI @xrv.eq_1 (AI @xv4.eq_1 @xv4.eq_2)))))))))))) :=
 ⟨@x1f.eq_4,@x1z9,@x1wv,@x1z3,@x1xb,@x1rz,@x1qn,@x1ul,@x1u9,@x1sr,@xrv.eq_1,@xv4.eq_1,@xv4.eq_2⟩
theorem SLM : type_of% (AI @SLM0 @SLM1) :=
 ⟨@SLM0,@SLM1⟩
theorem LN : type_of% (AI @List.length_append.{0} (AI @List.length_cons.{0} (AI @List.length_nil.{0} (AI @List.length_set.{0} (AI @List.length_replicate.{0} (AI @List.length_map.{0,0} (AI @List.length_take.{0} @List.length_drop.{0}))))))) :=
 ⟨@List.length_append.{0},@List.length_cons.{0},@List.length_nil.{0},@List.length_set.{0},@List.length_replicate.{0},@List.length_map.{0,0},@List.length_take.{0},@List.length_drop.{0}⟩
theorem GT : type_of% (AI @List.getElem?_cons_zero.{0} @List.getElem?_cons_succ.{0}) :=
 ⟨@List.getElem?_cons_zero.{0},@List.getElem?_cons_succ.{0}⟩
end Ev
end Go.Proofs.Ytppdfjdfjfoddaa
