/-
  How each operation goes, in the form in which the evaluator is walked.
-/
import Derived.Test.YtppdfjdfjfoddaaEvPrim
set_option linter.unusedSimpArgs false
set_option linter.unusedVariables false
namespace Go.Proofs.Ytppdfjdfjfoddaa
namespace Ev
section
variable {R : Type} {E : Env} {call : aY} {thaw : List Nat} {dst : Option Tmp} {s : List A} {h : H} {k : A → H → Option R}
structure Now (p : Prop) : Prop where
 it : p
structure Shut (p : Prop) : Prop where
 it : p
inductive Box (α : Type) where
 | mk (a : α)
 | no
def box {α : Type} (a : α) : Box α := .mk a
theorem aLd {α : Type} {a : α} : box a = .mk a := rfl
theorem aMa {t : Nat} {q : A → Option R} : kv s (.tmp t) q = match box (s.getD t (.d .undef)) with | .no => none | .mk a => q a := rfl
theorem aNV {K : IntKind} {n : Int} {q : A → Option R} : kv s (.const (.int K n)) q = q (.d (.int K n)) := rfl
theorem aJE {b : Bool} {q : A → Option R} : kv s (.const (.bool b)) q = q (.d (.bool b)) := rfl
theorem aLo {b : ByteArray} {q : A → Option R} : kv s (.const (.string b)) q = match box b.data.toList with | .no => none | .mk l => q (.d (.str l)) := rfl
theorem aJQ {q : A → Option R} : kv s (.const (.pointer none)) q = q (.d .nilp) := rfl
theorem aJP {q : A → Option R} : kv s (.const (.slice none 0 0)) q = q (.d .nils) := rfl
theorem aJx {f : FuncId} {q : A → Option R} : kv s (.func f) q = q (.clo f []) := rfl
theorem aNu {cs : Array Value} {q : A → Option R} : kv s (.const (.agg cs)) q = match yD cs.toList with
  | some as => q (.agg as)
  | none => none := by
 unfold kv; simp only [dG,IT]
 cases yD cs.toList <;> rfl
theorem aJb {q : List A → Option R} : kvs s [] q = q [] := rfl
theorem aHj {x : Operand} {xs : List Operand} {q : List A → Option R} : kvs s (x :: xs) q = kv s x fun a => kvs s xs fun as => q (a :: as) := by
 unfold kvs kv
 simp only [bY]
 cases dG s x with
 | none => rfl
 | some a => cases bY s xs <;> rfl
theorem ZV {yes no : List A → Option R} : wN none s yes no = yes s := rfl
theorem YJ {t : Nat} {w : Bool} {yes no : List A → Option R} : wN (some (some t,w)) s yes no = match s.getD t .junk with
  | .d (.bool b) => if b = w then (match box (s.set t (.d (.bool w))) with | .no => none | .mk s => yes s) else (match box (s.set t (.d (.bool (!w)))) with | .no => none | .mk s => no s)
  | .d .undef => no s
  | _ => none := by
 simp only [wN,List.getD_eq_getElem?_getD]
 cases s[t]? with
 | none => rfl
 | some a =>
  cases a with
  | d x => cases x <;> rfl
  | _ => rfl
theorem aHZ {x : Operand} : kOp E call thaw dst (.move x) s h k = kv s x fun a => k a h := by
 unfold kOp kvs kv
 simp only [opds,bY]
 cases dG s x <;> rfl
def kAsg (thaw : List Nat) (dst : Option Tmp) (h : H) (k : A → H → Option R) (a : A) : Option R :=
 match a with
 | .d .nils => match EG thaw dst with
  | 0 => k (.d .nils) h
  | e + 1 => if e < 1000 then k (.sl h.length 0 0 0) (h ++ [.arr [] e 0]) else k (.sl h.length 0 0 0) (h ++ [.vec [] (e - 1000) 0])
 | a => k a h
theorem NV {t : Nat} : kOp E call thaw dst (.assign (.tmp t)) s h k = match box (s.getD t (.d .undef)) with | .no => none | .mk a => k a h := by
 unfold kOp kvs
 simp only [opds,bY,dG,bU,Bool.false_eq_true,if_false]
 rfl
theorem H8 {v : Value} : kOp E call thaw dst (.assign (.const v)) s h k = kv s (.const v) (kAsg thaw dst h k) := by
 unfold kOp kvs kv kAsg
 simp only [opds,bY]
 cases dG s (.const v) with
 | none => rfl
 | some a =>
  simp only [bU,Bool.false_eq_true,if_false,evOp,one,dM,f8]
  cases a with
  | d x =>
   cases x with
   | nils => cases ht : EG thaw dst with
    | zero => simp [ht]
    | succ e => by_cases he : e < 1000 <;> simp [ht,he]
   | _ => rfl
  | _ => rfl
theorem LQ {f : FuncId} : kOp E call thaw dst (.assign (.func f)) s h k = k (.clo f []) h := by
 rfl
def kRet (r : Option (A × H)) (k : A → H → Option R) : Option R :=
 match r with
 | some (a,h') => k a h'
 | none => none
theorem aJr {op : BinOp} {t : TypeId} {x y : Operand} {t2 : TypeId} : kOp E call thaw dst (.binOp op t x y t2) s h k = kv s x fun a => kv s y fun b => kRet (cV E op t h a b) k := by
 unfold kOp kvs kv kRet
 simp only [opds,bY]
 cases dG s x with
 | none => rfl
 | some a => cases dG s y <;> rfl
theorem aNs {op : UnOp} {t : TypeId} {x : Operand} : kOp E call thaw dst (.unOp op t x) s h k = kv s x fun a => kRet ((aUn op a).map fun r => (r,h)) k := by
 unfold kOp kvs kv kRet
 simp only [opds,bY]
 cases dG s x <;> rfl
theorem aGA {c x y : Operand} : kOp E call thaw dst (.pick c x y) s h k = kv s c fun b => kv s x fun a => kv s y fun a' => kRet (OK h [b,a,a']) k := by
 unfold kOp kvs kv kRet
 simp only [opds,bY]
 cases dG s c with
 | none => rfl
 | some b => cases dG s x with
  | none => rfl
  | some a => cases dG s y <;> rfl
theorem VQ {x : Operand} : kOp E call thaw dst (.nilCheck x) s h k = kv s x fun a => kRet (jU h a) k := by
 unfold kOp kvs kv kRet
 simp only [opds,bY]
 cases dG s x <;> rfl
theorem aGs {t u : TypeId} {x : Operand} : kOp E call thaw dst (.convert t u x) s h k = kv s x fun a => kRet (f9 E.P h t u a) k := by
 unfold kOp kvs kv kRet
 simp only [opds,bY]
 cases dG s x <;> rfl
theorem aGl {t : TypeId} {x : Operand} : kOp E call thaw dst (.load t x) s h k = kv s x fun a => kRet ((EE E.P h t a).map fun v => (v,h)) k := by
 unfold kOp kvs kv kRet
 simp only [opds,bY]
 cases dG s x <;> rfl
theorem aFi {t : TypeId} {x y : Operand} : kOp E call thaw dst (.store t x y) s h k = kv s x fun a => kv s y fun b => kRet ((nM E.P h t a b).map fun h' => (.d .undef,h')) k := by
 unfold kOp kvs kv kRet
 simp only [opds,bY]
 cases dG s x with
 | none => rfl
 | some a => cases dG s y <;> rfl
theorem aEK {t : TypeId} : kOp E call thaw dst (.alloc t) s h k = match box (bR E.P t) with
  | .no => none
  | .mk none => none
  | .mk (some z) => kRet (aNew h z) k := by
 unfold kOp kvs kRet
 simp only [opds,bY,bU,Bool.false_eq_true,if_false,evOp,f8,box]
 cases bR E.P t <;> rfl
theorem aJq {t : TypeId} {x : Operand} : kOp E call thaw dst (.box t x) s h k = kv s x fun a => kRet (aNew h a) k := by
 unfold kOp kvs kv kRet
 simp only [opds,bY]
 cases dG s x <;> rfl
theorem aEL {t : TypeId} {ps : List (Nat × Operand)} : kOp E call thaw dst (.build t ps.toArray) s h k = match box (ps.map (·.2)) with
  | .no => none
  | .mk xs => kvs s xs fun vs => kRet ((iL E.P t ((ps.map (·.1)).zip vs)).map fun a => (a,h)) k := by
 unfold kOp kRet
 rfl
theorem PM {t : TypeId} {n : Nat} {ps : List (Nat × Operand)} : kOp E call thaw dst (.buildSlice t n ps.toArray) s h k = match box (ps.map (·.2)) with
  | .no => none
  | .mk xs => kvs s xs fun vs => kRet (if EA thaw dst = true then tV E.P h t n ((ps.map (·.1)).zip vs) else sW E.P h t n ((ps.map (·.1)).zip vs)) k := by
 unfold kOp kRet
 rfl
theorem TP {fn : Fn} {cap : List Operand} : kOp E call thaw dst (.makeFunc fn #[] cap.toArray) s h k = kvs s cap fun vs => kRet (NT h fn true vs) k := by
 unfold kOp kRet
 rfl
theorem R7 {t : TypeId} {x y : Operand} : kOp E call thaw dst (.makeSlice t x y) s h k = kv s x fun a => kv s y fun b => kRet (lC a fun l => lC b fun c => if EA thaw dst = true then IQ E.P h t l c else lB E.P h t l c) k := by
 unfold kOp kvs kv kRet
 simp only [opds,bY]
 cases dG s x with
 | none => rfl
 | some a => cases dG s y <;> rfl
theorem Y6 {t : TypeId} {x : Operand} : kOp E call thaw dst (.slice t x none none none) s h k = kvs s [x] fun vs => kRet (lD E.P h t false false vs) k := rfl
theorem YI {t : TypeId} {x lo : Operand} : kOp E call thaw dst (.slice t x (some lo) none none) s h k = kvs s [x,lo] fun vs => kRet (lD E.P h t true false vs) k := rfl
theorem YA {t : TypeId} {x hi : Operand} : kOp E call thaw dst (.slice t x none (some hi) none) s h k = kvs s [x,hi] fun vs => kRet (lD E.P h t false true vs) k := rfl
theorem YL {t : TypeId} {x lo hi : Operand} : kOp E call thaw dst (.slice t x (some lo) (some hi) none) s h k = kvs s [x,lo,hi] fun vs => kRet (lD E.P h t true true vs) k := rfl
theorem SK {t : TypeId} {x : Operand} {f : Nat} : kOp E call thaw dst (.fieldAddr t x f) s h k = kv s x fun a => kRet ((bA E.P t f).bind fun r => (vA r.1 a).map fun r => (r,h)) k := by
 unfold kOp kvs kv kRet
 simp only [opds,bY]
 cases dG s x <;> rfl
theorem aD1 {t : TypeId} {x : Operand} {f : Nat} : kOp E call thaw dst (.field t x f) s h k = kv s x fun a => kRet (HZ E.P h t f a) k := by
 unfold kOp kvs kv kRet
 simp only [opds,bY]
 cases dG s x <;> rfl
theorem R3 {t : TypeId} {x y : Operand} : kOp E call thaw dst (.indexAddr t x y) s h k = kv s x fun a => kv s y fun b => kRet (lC b fun i => (rT E.P h t a i).map fun r => (r,h)) k := by
 unfold kOp kvs kv kRet
 simp only [opds,bY]
 cases dG s x with
 | none => rfl
 | some a => cases dG s y <;> rfl
theorem aEl {t : TypeId} {x y : Operand} : kOp E call thaw dst (.index t x y) s h k = kv s x fun a => kv s y fun b => kRet (lC b fun i => (OY E.P t a i).map fun r => (r,h)) k := by
 unfold kOp kvs kv kRet
 simp only [opds,bY]
 cases dG s x with
 | none => rfl
 | some a => cases dG s y <;> rfl
theorem YQ {t : TypeId} : kOp E call thaw dst (.makeMap t none) s h k = k (.mp h.length) (h ++ [.mp []]) := rfl
theorem aAZ {t : TypeId} {x y : Operand} {ok : Bool} : kOp E call thaw dst (.lookup t x y ok) s h k = kv s x fun a => kv s y fun b => kRet (OM E.P h t ok a b) k := by
 unfold kOp kvs kv kRet
 simp only [opds,bY]
 cases dG s x with
 | none => rfl
 | some a => cases dG s y <;> rfl
theorem RU {t : TypeId} {x y z : Operand} : kOp E call thaw dst (.mapUpdate t x y z) s h k = kv s x fun a => kv s y fun b => kv s z fun c => kRet (HF E.P h t a b c) k := by
 unfold kOp kvs kv kRet
 simp only [opds,bY]
 cases dG s x with
 | none => rfl
 | some a => cases dG s y with
  | none => rfl
  | some b => cases dG s z <;> rfl
theorem YR {x : Operand} {i : Nat} : kOp E call thaw dst (.extract x i) s h k = kv s x fun a => kRet (y9 h i a) k := by
 unfold kOp kvs kv kRet
 simp only [opds,bY]
 cases dG s x <;> rfl
theorem YO {b : Builtin} {args : List Operand} {tys : List TypeId} : kOp E call thaw dst (.call ⟨.builtin b,args.toArray,tys.toArray⟩) s h k = kvs s args fun vs => kRet (cY E.P h b tys vs) k := by
 unfold kOp kRet
 rfl
theorem d8 {op : Op} {q : A → H → Foot → Option R} (hp : Now (cM op = true ∧ bU op = false)) : kOpD E call thaw dst op s h q = kOp E call thaw dst op s h fun a _ => q a h {} := by
 obtain ⟨hp,hc⟩ := hp.it
 unfold kOpD kOp kvs
 rw [hp,hc]
 cases bY s (opds op) with
 | none => rfl
 | some vs =>
  simp only [if_true,Bool.false_eq_true,if_false]
def memD (E : Env) (call : aY) (thaw : List Nat) (dst : Option Tmp) (op : Op) (h : H) (vs : List A) : Option (A × H × Foot) := match box (aD aE h (idsL vs) []) with
 | .no => none
 | .mk ord => match box (evOp E call thaw (pack h ord) (f8 dst op) (aG (aI ord) vs)) with
  | .mk (some (a,h1)) => if ord.length ≤ h1.length ∧ closed h ord (idsL vs) = true then
    (if (eX E op vs && h1.length - ord.length == 0) = true then some (mapA (back ord h.length h1.length) a,h,{ ids := ord,ro := true })
    else some (mapA (back ord h.length h1.length) a,bK (back ord h.length h1.length) h ord h1,{ ids := ord ++ List.range' h.length (h1.length - ord.length),ro := false,wr := wrOf E op vs ord ++ List.range' h.length (h1.length - ord.length) }))
   else none
  | _ => none
theorem fU {op : Op} {q : A → H → Foot → Option R} (hp : Now (cM op = false ∧ nD op = false)) : kOpD E call thaw dst op s h q = match box (opds op) with | .no => none | .mk xs => kvs s xs fun vs => match box (memD E call thaw dst op h vs) with
  | .mk (some (a,h',c)) => q a h' c
  | _ => none := by
 simp only [box]
 unfold kOpD kvs
 rw [hp.it.1,hp.it.2]
 cases bY s (opds op) with
 | none => rfl
 | some vs =>
  simp only [Bool.false_eq_true,if_false,lA,memD,box]
  cases evOp E call thaw (pack h (aD aE h (idsL vs) [])) (f8 dst op) (aG (aI (aD aE h (idsL vs) [])) vs) with
  | none => rfl
  | some r =>
   obtain ⟨a,h1⟩ := r
   by_cases hc : (aD aE h (idsL vs) []).length ≤ h1.length ∧ closed h (aD aE h (idsL vs) []) (idsL vs) = true
   ·simp only [if_pos hc]
    by_cases hr : (eX E op vs && h1.length - (aD aE h (idsL vs) []).length == 0) = true
    ·simp only [if_pos hr]
    ·simp only [if_neg hr]
   ·simp only [if_neg hc]
theorem EN {op : Op} {q : A → H → Foot → Option R} (hp : Now (cM op = false ∧ nD op = true ∧ bU op = false)) : kOpD E call thaw dst op s h q = kvs s (opds op) fun vs => kOp E call thaw dst op s h fun a _ => q a h { ids := ids0 vs,ro := true } := by
 unfold kOpD kOp kvs
 rw [hp.it.1,hp.it.2.1,hp.it.2.2]
 cases bY s (opds op) with
 | none => rfl
 | some vs => simp only [Bool.false_eq_true,if_false,if_true]
theorem KF {x : Operand} {xs : List Operand} {op : Op} {q : A → H → Foot → Option R} (hx : opds op = x :: xs) : (kvs s (opds op) fun vs => kOp E call thaw dst op s h fun a _ => q a h { ids := ids0 vs,ro := true }) = kv s x fun b => kOp E call thaw dst op s h fun a _ => q a h { ids := idsA b,ro := true } := by
 unfold kOp kv
 rw [hx]
 unfold kvs
 simp only [bY]
 cases dG s x with
 | none => rfl
 | some b =>
  cases bY s xs with
  | none => rfl
  | some bs => rfl
theorem aDS {t : TypeId} {x : Operand} {q : A → H → Foot → Option R} : kOpD E call thaw dst (.load t x) s h q = kv s x fun b => kOp E call thaw dst (.load t x) s h fun a _ => q a h { ids := idsA b,ro := true } := (EN ⟨rfl,rfl,rfl⟩).trans (KF rfl)
theorem Y5 {t : TypeId} {x y : Operand} {ok : Bool} {q : A → H → Foot → Option R} : kOpD E call thaw dst (.lookup t x y ok) s h q = kv s x fun b => kOp E call thaw dst (.lookup t x y ok) s h fun a _ => q a h { ids := idsA b,ro := true } := (EN ⟨rfl,rfl,rfl⟩).trans (KF rfl)
theorem TC {t : TypeId} {q : A → H → Foot → Option R} : type_of% (fU (E := E) (call := call) (thaw := thaw) (dst := dst) (s := s) (h := h) (op := .makeMap t none) (q := q) ⟨rfl,rfl⟩) := fU ⟨rfl,rfl⟩
theorem N0 {t : TypeId} {x y z : Operand} {q : A → H → Foot → Option R} : type_of% (fU (E := E) (call := call) (thaw := thaw) (dst := dst) (s := s) (h := h) (op := .mapUpdate t x y z) (q := q) ⟨rfl,rfl⟩) := fU ⟨rfl,rfl⟩
theorem aCi {t : TypeId} {x y : Operand} {q : A → H → Foot → Option R} : type_of% (fU (E := E) (call := call) (thaw := thaw) (dst := dst) (s := s) (h := h) (op := .store t x y) (q := q) ⟨rfl,rfl⟩) := fU ⟨rfl,rfl⟩
theorem YN {x : Operand} {q : A → H → Foot → Option R} : type_of% (fU (E := E) (call := call) (thaw := thaw) (dst := dst) (s := s) (h := h) (op := .assign x) (q := q) ⟨rfl,rfl⟩) := fU ⟨rfl,rfl⟩
theorem aBh {t : TypeId} {q : A → H → Foot → Option R} : type_of% (fU (E := E) (call := call) (thaw := thaw) (dst := dst) (s := s) (h := h) (op := .alloc t) (q := q) ⟨rfl,rfl⟩) := fU ⟨rfl,rfl⟩
theorem aHA {t : TypeId} {x : Operand} {q : A → H → Foot → Option R} : type_of% (fU (E := E) (call := call) (thaw := thaw) (dst := dst) (s := s) (h := h) (op := .box t x) (q := q) ⟨rfl,rfl⟩) := fU ⟨rfl,rfl⟩
theorem MV {t : TypeId} {n : Nat} {ps : List (Nat × Operand)} {q : A → H → Foot → Option R} : type_of% (fU (E := E) (call := call) (thaw := thaw) (dst := dst) (s := s) (h := h) (op := .buildSlice t n ps.toArray) (q := q) ⟨rfl,rfl⟩) := fU ⟨rfl,rfl⟩
theorem aEY {t u : TypeId} {x : Operand} {q : A → H → Foot → Option R} : type_of% (fU (E := E) (call := call) (thaw := thaw) (dst := dst) (s := s) (h := h) (op := .convert t u x) (q := q) ⟨rfl,rfl⟩) := fU ⟨rfl,rfl⟩
theorem OH {t : TypeId} {x y : Operand} {q : A → H → Foot → Option R} : type_of% (fU (E := E) (call := call) (thaw := thaw) (dst := dst) (s := s) (h := h) (op := .makeSlice t x y) (q := q) ⟨rfl,rfl⟩) := fU ⟨rfl,rfl⟩
theorem aBT {t : TypeId} {x : Operand} {lo hi mx : Option Operand} {q : A → H → Foot → Option R} : kOpD E call thaw dst (.slice t x lo hi mx) s h q = kv s x fun b => kOp E call thaw dst (.slice t x lo hi mx) s h fun a _ => q a h { ids := idsA b,ro := true } := (EN ⟨rfl,rfl,rfl⟩).trans (KF rfl)
theorem OV {t : TypeId} {x y : Operand} {q : A → H → Foot → Option R} : kOpD E call thaw dst (.indexAddr t x y) s h q = kv s x fun b => kOp E call thaw dst (.indexAddr t x y) s h fun a _ => q a h { ids := idsA b,ro := true } := (EN ⟨rfl,rfl,rfl⟩).trans (KF rfl)
theorem ZJ {args tys : Array _} {q : A → H → Foot → Option R} : type_of% (fU (E := E) (call := call) (thaw := thaw) (dst := dst) (s := s) (h := h) (op := .call ⟨.builtin .append,args,tys⟩) (q := q) ⟨rfl,rfl⟩) := fU ⟨rfl,rfl⟩
theorem aHe {x : Operand} {xs : List Operand} {tys : Array _} {q : A → H → Foot → Option R} : kOpD E call thaw dst (.call ⟨.builtin .len,(x :: xs).toArray,tys⟩) s h q = kv s x fun b => kOp E call thaw dst (.call ⟨.builtin .len,(x :: xs).toArray,tys⟩) s h fun a _ => q a h { ids := idsA b,ro := true } := (EN ⟨rfl,rfl,rfl⟩).trans (KF rfl)
theorem aEP {x : Operand} {q : A → H → Foot → Option R} : type_of% (d8 (E := E) (call := call) (thaw := thaw) (dst := dst) (s := s) (h := h) (op := .move x) (q := q) ⟨rfl,rfl⟩) := d8 ⟨rfl,rfl⟩
theorem aFc {c x y : Operand} {q : A → H → Foot → Option R} : type_of% (d8 (E := E) (call := call) (thaw := thaw) (dst := dst) (s := s) (h := h) (op := .pick c x y) (q := q) ⟨rfl,rfl⟩) := d8 ⟨rfl,rfl⟩
theorem RS {x : Operand} {q : A → H → Foot → Option R} : type_of% (d8 (E := E) (call := call) (thaw := thaw) (dst := dst) (s := s) (h := h) (op := .nilCheck x) (q := q) ⟨rfl,rfl⟩) := d8 ⟨rfl,rfl⟩
theorem aGE {op : BinOp} {t : TypeId} {x y : Operand} {t2 : TypeId} {q : A → H → Foot → Option R} : type_of% (d8 (E := E) (call := call) (thaw := thaw) (dst := dst) (s := s) (h := h) (op := .binOp op t x y t2) (q := q) ⟨rfl,rfl⟩) := d8 ⟨rfl,rfl⟩
theorem aJJ {op : UnOp} {t : TypeId} {x : Operand} {q : A → H → Foot → Option R} : type_of% (d8 (E := E) (call := call) (thaw := thaw) (dst := dst) (s := s) (h := h) (op := .unOp op t x) (q := q) ⟨rfl,rfl⟩) := d8 ⟨rfl,rfl⟩
theorem Q5 {fn : Fn} {first cap : Array Operand} {q : A → H → Foot → Option R} : type_of% (d8 (E := E) (call := call) (thaw := thaw) (dst := dst) (s := s) (h := h) (op := .makeFunc fn first cap) (q := q) ⟨rfl,rfl⟩) := d8 ⟨rfl,rfl⟩
theorem PG {t : TypeId} {x : Operand} {f : Nat} {q : A → H → Foot → Option R} : type_of% (d8 (E := E) (call := call) (thaw := thaw) (dst := dst) (s := s) (h := h) (op := .fieldAddr t x f) (q := q) ⟨rfl,rfl⟩) := d8 ⟨rfl,rfl⟩
theorem aCF {t : TypeId} {x : Operand} {f : Nat} {q : A → H → Foot → Option R} : type_of% (d8 (E := E) (call := call) (thaw := thaw) (dst := dst) (s := s) (h := h) (op := .field t x f) (q := q) ⟨rfl,rfl⟩) := d8 ⟨rfl,rfl⟩
theorem aBt {t : TypeId} {x y : Operand} {q : A → H → Foot → Option R} : type_of% (d8 (E := E) (call := call) (thaw := thaw) (dst := dst) (s := s) (h := h) (op := .index t x y) (q := q) ⟨rfl,rfl⟩) := d8 ⟨rfl,rfl⟩
theorem V1 {x : Operand} {i : Nat} {q : A → H → Foot → Option R} : type_of% (d8 (E := E) (call := call) (thaw := thaw) (dst := dst) (s := s) (h := h) (op := .extract x i) (q := q) ⟨rfl,rfl⟩) := d8 ⟨rfl,rfl⟩
theorem aB5 {t : TypeId} {ps : Array (Nat × Operand)} {q : A → H → Foot → Option R} : type_of% (d8 (E := E) (call := call) (thaw := thaw) (dst := dst) (s := s) (h := h) (op := .build t ps) (q := q) ⟨rfl,rfl⟩) := d8 ⟨rfl,rfl⟩
def aHu (a b : Foot) : Bool := (!a.ro && (!b.ids.isEmpty && a.wr.any b.ids.contains)) || (!b.ro && (!a.ids.isEmpty && b.wr.any a.ids.contains))
theorem aOJ {l : List Nat} : l.any (([] : List Nat)).contains = false := by
 induction l with
 | nil => rfl
 | cons a l ih => simp [ih]
theorem aE5 (a b : Foot) : aHu a b = nU a b := by
 obtain ⟨ia,ra,wa⟩ := a
 obtain ⟨ib,rb,wb⟩ := b
 unfold aHu nU
 cases ia <;> cases ib <;> simp
def hY (ops : List Oper) (cs : List Foot) : Bool :=
 let b := HT ops []
 (List.range cs.length).all fun j => (List.range j).all fun i => (b.getD j 0).testBit i || !aHu (cs.getD i {}) (cs.getD j {})
theorem aNc {src : List Oper} {cs : List Foot} (h : rK src cs = true) : hY src cs = true := by
 unfold hY
 simp only [aE5]
 exact h
theorem aBc {src : List Oper} {cs : List Foot} {x : Option R} (hc : Shut (hY src cs = true)) : (if rK src cs = true then x else none) = x := if_pos (by
 have := hc.it
 unfold hY at this
 simp only [aE5] at this
 exact this)
theorem aHk {q : List A → H → Option R} : kOps E call thaw [] s h q = q s h := rfl
theorem aFx {op : Op} {g : Option (Option Tmp × Bool)} {os : List SO} {q : List A → H → Option R} : kOps E call thaw (⟨dst,op,g⟩ :: os) s h q = wN g s
  (fun s => kOp E call thaw dst op s h fun a h' => match box (aPut s dst a) with | .no => none | .mk s' => kOps E call thaw os s' h' q)
  (fun s => match box (aPut s dst (.d .undef)) with | .no => none | .mk s' => kOps E call thaw os s' h q) := rfl
theorem aFp {cs : List Foot} {q : List A → H → List Foot → Option R} : xU E call thaw [] s h cs q = q s h cs := rfl
theorem aCc {op : Op} {g : Option (Option Tmp × Bool)} {os : List SO} {cs : List Foot} {q : List A → H → List Foot → Option R} : xU E call thaw (⟨dst,op,g⟩ :: os) s h cs q = wN g s
  (fun s => kOpD E call thaw dst op s h fun a h' c => match box (aPut s dst a) with | .no => none | .mk s' => xU E call thaw os s' h' (cs ++ [c]) q)
  (fun s => match box (aPut s dst (.d .undef)) with | .no => none | .mk s' => xU E call thaw os s' h (cs ++ [{}]) q) := rfl
section
variable {L nf : Nat} {live : List Bool} {lp : Nat → Code} {q : Exit → List A → H → Option R}
theorem aBM : aN E call L nf thaw live lp .skip s h q = q .normal s h := rfl
theorem aEJ {l : List SO} : aN E call L nf thaw live lp (.ops l) s h q = kOps E call thaw l s h fun s h => q .normal s h := rfl
theorem XU {l : List SO} {src : Array Oper} : aN E call L nf thaw live lp (.drawn l src) s h q = xU E call thaw l s h [] fun s h cs => if rK src.toList cs = true then q .normal s h else none := rfl
theorem aEB {a b : SC} : aN E call L nf thaw live lp (.seq a b) s h q = aN E call L nf thaw live lp a s h fun e s h => match e with
  | .normal => aN E call L nf thaw live lp b s h q
  | e => q e s h := rfl
theorem aAU {c : Operand} {x y : SC} : aN E call L nf thaw live lp (.cond c x y) s h q = kv s c fun a => match a with
  | .d (.bool b) => if b = true then aN E call L nf thaw live lp x s h q else aN E call L nf thaw live lp y s h q
  | _ => none := rfl
theorem Z3 {id : Nat} {c : SC} : aN E call L nf thaw live lp (.block id c) s h q = aN E call L nf thaw live lp c s h fun e s h => match e with
  | .exit i => if i = id then q .normal s h else q (.exit i) s h
  | e => q e s h := rfl
theorem aBm {i : Nat} : aN E call L nf thaw live lp (.loop i) s h q = match box (qF live s) with
  | .no => none
  | .mk m => match box (gc nf m s h) with
   | .mk (s',h') => aO E call L nf thaw live (lp i) m L s' h' q
   | .no => none := rfl
theorem aCC {id : Nat} : aN E call L nf thaw live lp (.exit id) s h q = q (.exit id) s h := rfl
theorem aEs : aN E call L nf thaw live lp .ret s h q = q .ret s h := rfl
theorem VJ {c : Code} {m : List Bool} {n : Nat} : cJ E call L nf thaw live c m n q .normal s h = match box (gc nf m s h) with
  | .mk (s',h') => aO E call L nf thaw live c m n s' h' q
  | .no => none := rfl
theorem aCP {c : Code} {m : List Bool} {n i : Nat} : cJ E call L nf thaw live c m n q (.exit i) s h = match box (gc nf m s h) with
  | .mk (s',h') => q (.exit i) s' h'
  | .no => none := rfl
theorem aE6 {c : Code} {m : List Bool} {n : Nat} : cJ E call L nf thaw live c m n q .ret s h = match box (gc nf m s h) with
  | .mk (s',h') => q .ret s' h'
  | .no => none := rfl
end
def aM (E : Env) (call : aY) (h : H) (f : FuncId) (args : List A) (k : A → H → Option R) : Option R :=
 match dJ call E.hint (pack h (aD aE h (idsL args) [])) f (aG (aI (aD aE h (idsL args) [])) args) with
 | some (a,h1) =>
  if (aD aE h (idsL args) []).length ≤ h1.length ∧ closed h (aD aE h (idsL args) []) (idsL args) = true then
   k (mapA (back (aD aE h (idsL args) []) h.length h1.length) a) (bK (back (aD aE h (idsL args) []) h.length h1.length) h (aD aE h (idsL args) []) h1)
  else none
 | none => none
theorem aO9 {f : FuncId} {args : List Operand} {tys : Array TypeId} : kOp E call thaw dst (.call ⟨.value (.func f),args.toArray,tys⟩) s h k = kvs s args fun vs => aM E call h f vs k := by
 unfold kOp kvs aM
 simp only [opds,bY,dG]
 cases bY s args with
 | none => rfl
 | some vs =>
  simp only [bU,if_true,lA,idsL,idsA,List.nil_append,aG,mapA,evOp,eS,i7,f8,List.append_nil]
  cases dJ call E.hint (pack h (aD aE h (idsL vs) [])) f (aG (aI (aD aE h (idsL vs) [])) vs) with
  | none => rfl
  | some r =>
   obtain ⟨a,h1⟩ := r
   by_cases c1 : (aD aE h (idsL vs) []).length ≤ h1.length <;> by_cases c2 : closed h (aD aE h (idsL vs) []) (idsL vs) = true <;> simp [c1,c2]
theorem aEz {f : FuncId} {args : List Operand} {tys : Array TypeId} : kOp E call thaw dst (.call ⟨.value (.func f),args.toArray,tys⟩) s h k = kvs s args fun vs => aM E call h f vs fun a h' => match box h' with | .no => none | .mk h'' => k a h'' := by
 rw [aO9]
 rfl
def zW (E : Env) (call : aY) (h : H) (f : FuncId) (caps args : List A) (k : A → H → Option R) : Option R :=
 match dJ call E.hint (pack h (aD aE h (idsL caps ++ idsL args) [])) f (aG (aI (aD aE h (idsL caps ++ idsL args) [])) args ++ aG (aI (aD aE h (idsL caps ++ idsL args) [])) caps) with
 | some (a,h1) =>
  if (aD aE h (idsL caps ++ idsL args) []).length ≤ h1.length ∧ closed h (aD aE h (idsL caps ++ idsL args) []) (idsL caps ++ idsL args) = true then
   k (mapA (back (aD aE h (idsL caps ++ idsL args) []) h.length h1.length) a) (bK (back (aD aE h (idsL caps ++ idsL args) []) h.length h1.length) h (aD aE h (idsL caps ++ idsL args) []) h1)
  else none
 | none => none
def qP (E : Env) (call : aY) (h : H) (g : A) (args : List A) (k : A → H → Option R) : Option R :=
 match g with
 | .d (.fn f caps) => aM E call h f (args ++ caps.map .d) k
 | .clo f caps => zW E call h f caps args k
 | _ => none
theorem bQ : ∀ (as bs : List A),idsL (as ++ bs) = idsL as ++ idsL bs
 | [],bs => by simp [idsL]
 | a :: as,bs => by simp [idsL,bQ as bs]
theorem aHT : ∀ (ds : List D),idsL (ds.map .d) = []
 | [] => by simp [idsL]
 | d :: ds => by simp [idsL,idsA,aHT ds]
theorem eB {f : Nat → Option Nat} : ∀ (as bs : List A),aG f (as ++ bs) = aG f as ++ aG f bs
 | [],bs => by simp [aG]
 | a :: as,bs => by simp [aG,eB as bs]
theorem aDv {f : Nat → Option Nat} : ∀ (ds : List D),aG f (ds.map .d) = ds.map .d
 | [] => by simp [aG]
 | d :: ds => by simp [aG,mapA,aDv ds]
theorem aMr {g : A} {vs : List A} {tys : Array TypeId} {x : Operand} {args : Array Operand} : (match lA E call thaw h (f8 dst (.call ⟨.value x,args,tys⟩)) (g :: vs) with
   | some (a,h',_) => k a h'
   | none => none) = qP E call h g vs k := by
 unfold lA
 simp only [evOp,eS,f8,aG]
 cases g with
 | d y =>
  cases y with
  | fn f caps =>
   simp only [qP,aM,mapA,i7,idsL,idsA,List.nil_append,bQ,aHT,List.append_nil,eB,aDv]
   cases dJ call E.hint (pack h (aD aE h (idsL vs) [])) f (aG (aI (aD aE h (idsL vs) [])) vs ++ caps.map .d) with
   | none => rfl
   | some r =>
    obtain ⟨a,h1⟩ := r
    by_cases c1 : (aD aE h (idsL vs) []).length ≤ h1.length <;> by_cases c2 : closed h (aD aE h (idsL vs) []) (idsL vs) = true <;> simp [c1,c2]
  | _ => simp only [qP,mapA,i7]
 | clo f caps =>
  simp only [qP,zW,mapA,i7,idsL,idsA]
  cases dJ call E.hint (pack h (aD aE h (idsL caps ++ idsL vs) [])) f (aG (aI (aD aE h (idsL caps ++ idsL vs) [])) vs ++ aG (aI (aD aE h (idsL caps ++ idsL vs) [])) caps) with
  | none => rfl
  | some r =>
   obtain ⟨a,h1⟩ := r
   by_cases c1 : (aD aE h (idsL caps ++ idsL vs) []).length ≤ h1.length <;> by_cases c2 : closed h (aD aE h (idsL caps ++ idsL vs) []) (idsL caps ++ idsL vs) = true <;> simp [c1,c2]
 | sl id gen off len =>
  simp only [qP,mapA]
  cases aI (aD aE h (idsL (A.sl id gen off len :: vs)) []) id <;> rfl
 | ptr id gen off =>
  simp only [qP,mapA]
  cases aI (aD aE h (idsL (A.ptr id gen off :: vs)) []) id <;> rfl
 | mp id =>
  simp only [qP,mapA]
  cases aI (aD aE h (idsL (A.mp id :: vs)) []) id <;> rfl
 | agg cs => simp only [qP,mapA,i7]
 | tup cs => simp only [qP,mapA,i7]
 | junk => simp only [qP,mapA,i7]
theorem aEe {t : Nat} {args : List Operand} {tys : Array TypeId} : kOp E call thaw dst (.call ⟨.value (.tmp t),args.toArray,tys⟩) s h k = match box (s.getD t (.d .undef)) with
  | .no => none
  | .mk g => kvs s args fun vs => qP E call h g vs k := by
 unfold kOp kvs
 simp only [opds,bY,dG,box]
 cases bY s args with
 | none => rfl
 | some vs => simp only [bU,if_true]; exact aMr
theorem aFk {f : FuncId} {caps : List D} {vs : List A} : qP E call h (.d (.fn f caps)) vs k = match box (vs ++ caps.map .d) with | .no => none | .mk as' => aM E call h f as' k := rfl
theorem aCK {f : FuncId} {caps vs : List A} : qP E call h (.clo f caps) vs k = zW E call h f caps vs k := rfl
theorem aCb {f : FuncId} {vs : List A} : zW E call h f [] vs k = aM E call h f vs k := by
 unfold zW aM
 simp only [idsL,List.nil_append,aG,List.append_nil]
 rfl
theorem aAr {h : H} {ids : List Nat} {h1 : H} {ord : List Nat} : ∀ (ord : List Nat) (h h1 : H) (f : Nat → Option Nat),ord.length ≤ h1.length → (bK f h ord h1).length = h.length + (h1.length - ord.length)
 | [],h,h1,f,_ => by simp [bK]
 | i :: ord,h,[],f,hl => by simp at hl
 | i :: ord,h,o :: h1,f,hl => by
  simp only [bK,aAr (h := h) (ids := ids) (h1 := h1) (ord := ord) ord _ h1 f (by simpa using hl),List.length_set,List.length_cons]
  omega
def wrC (E : Env) (f : FuncId) (ord : List Nat) : List Nat := if (E.hint f).mode == 3 then [] else ord
def L7 (E : Env) (f : FuncId) (h h' : H) (ord : List Nat) : Option (H × Foot) := if ((E.hint f).mode == 1 && h'.length - h.length == 0) = true then some (h,{ ids := ord,ro := true }) else some (h',{ ids := ord ++ List.range' h.length (h'.length - h.length),ro := false,wr := wrC E f ord ++ List.range' h.length (h'.length - h.length) })
theorem aKb {f : FuncId} {args : List Operand} {tys : Array TypeId} {q : A → H → Foot → Option R} : kOpD E call thaw dst (.call ⟨.value (.func f),args.toArray,tys⟩) s h q = kvs s args fun vs => match box (aD aE h (idsL vs) []) with
  | .no => none
  | .mk ord => aM E call h f vs fun a h' => if ((E.hint f).mode == 1 && h'.length - h.length == 0) = true then q a h { ids := ord,ro := true } else q a h' { ids := ord ++ List.range' h.length (h'.length - h.length),ro := false,wr := wrC E f ord ++ List.range' h.length (h'.length - h.length) } := by
 unfold kOpD kvs aM
 simp only [opds,bY,dG,box]
 cases bY s args with
 | none => rfl
 | some vs =>
  simp only [cM,nD,Bool.false_eq_true,if_false,lA,idsL,idsA,List.nil_append,aG,mapA,evOp,eS,i7,f8,List.append_nil,eX]
  cases dJ call E.hint (pack h (aD aE h (idsL vs) [])) f (aG (aI (aD aE h (idsL vs) [])) vs) with
  | none => rfl
  | some r =>
   obtain ⟨a,h1⟩ := r
   by_cases c1 : (aD aE h (idsL vs) []).length ≤ h1.length
   ·by_cases c2 : closed h (aD aE h (idsL vs) []) (idsL vs) = true
    ·have e := aAr (h := h) (ids := idsL vs) (h1 := h1) (ord := []) (aD aE h (idsL vs) []) h h1 (back (aD aE h (idsL vs) []) h.length h1.length) c1
     have e2 : (bK (back (aD aE h (idsL vs) []) h.length h1.length) h (aD aE h (idsL vs) []) h1).length - h.length = h1.length - (aD aE h (idsL vs) []).length := by omega
     simp only [c1,c2,and_self,if_true,e2]
     first | done | rfl | (by_cases c3 : ((E.hint f).mode == 1 && h1.length - (aD aE h (idsL vs) []).length == 0) = true <;> simp [c3])
    ·simp only [c2,and_false,if_false,Bool.false_eq_true]
   ·simp only [c1,false_and,if_false]
theorem UG {f : FuncId} {args : List Operand} {tys : Array TypeId} {q : A → H → Foot → Option R} : kOpD E call thaw dst (.call ⟨.value (.func f),args.toArray,tys⟩) s h q = kvs s args fun vs => match box (aD aE h (idsL vs) []) with
  | .no => none
  | .mk ord => aM E call h f vs fun a h' => match box (L7 E f h h' ord) with | .mk (some (h'',c)) => q a h'' c | _ => none := by
 rw [aKb]
 congr 1
 funext vs
 simp only [box]
 congr 1
 funext a h'
 unfold L7
 by_cases hc : ((E.hint f).mode == 1 && h'.length - h.length == 0) = true
 ·simp only [if_pos hc]
 ·simp only [if_neg hc]
theorem aIp {t : Nat} {args : List Operand} {tys : Array TypeId} {q : A → H → Foot → Option R} {f : FuncId} {caps : List D} (hg : Now (s.getD t (.d .undef) = .d (.fn f caps))) : kOpD E call thaw dst (.call ⟨.value (.tmp t),args.toArray,tys⟩) s h q = kvs s args fun vs => match box (aD aE h (idsL vs) []) with
  | .no => none
  | .mk ord => aM E call h f (vs ++ caps.map .d) fun a h' => if ((E.hint f).mode == 1 && h'.length - h.length == 0) = true then q a h { ids := ord,ro := true } else q a h' { ids := ord ++ List.range' h.length (h'.length - h.length),ro := false,wr := wrC E f ord ++ List.range' h.length (h'.length - h.length) } := by
 have hg := hg.it
 unfold kOpD kvs aM
 simp only [opds,bY,dG,box,hg]
 cases bY s args with
 | none => rfl
 | some vs =>
  simp only [cM,nD,Bool.false_eq_true,if_false,lA,idsL,idsA,List.nil_append,aG,mapA,evOp,eS,i7,f8,List.append_nil,eX,bQ,aHT,eB,aDv]
  cases dJ call E.hint (pack h (aD aE h (idsL vs) [])) f (aG (aI (aD aE h (idsL vs) [])) vs ++ caps.map .d) with
  | none => rfl
  | some r =>
   obtain ⟨a,h1⟩ := r
   by_cases c1 : (aD aE h (idsL vs) []).length ≤ h1.length
   ·by_cases c2 : closed h (aD aE h (idsL vs) []) (idsL vs) = true
    ·have e := aAr (h := h) (ids := idsL vs) (h1 := h1) (ord := []) (aD aE h (idsL vs) []) h h1 (back (aD aE h (idsL vs) []) h.length h1.length) c1
     have e2 : (bK (back (aD aE h (idsL vs) []) h.length h1.length) h (aD aE h (idsL vs) []) h1).length - h.length = h1.length - (aD aE h (idsL vs) []).length := by omega
     simp only [c1,c2,and_self,if_true,e2]
     first | done | rfl | (by_cases c3 : ((E.hint f).mode == 1 && h1.length - (aD aE h (idsL vs) []).length == 0) = true <;> simp [c3])
    ·simp only [c2,and_false,if_false,Bool.false_eq_true]
   ·simp only [c1,false_and,if_false]
def aSb (E : Env) (call : aY) (thaw : List Nat) (dst : Option Tmp) (op : Op) (s : List A) (h : H) (q : A → H → Foot → Option R) : Option R := kOpD E call thaw dst op s h q
theorem aBl {t : Nat} {args : List Operand} {tys : Array TypeId} {q : A → H → Foot → Option R} : kOpD E call thaw dst (.call ⟨.value (.tmp t),args.toArray,tys⟩) s h q = match box (s.getD t (.d .undef)) with
  | .mk (.d (.fn f caps)) => kvs s args fun vs => match box (aD aE h (idsL vs) []) with
   | .no => none
   | .mk ord => match box (vs ++ caps.map .d) with | .no => none | .mk as' => aM E call h f as' fun a h' => match box (L7 E f h h' ord) with | .mk (some (h'',c)) => q a h'' c | _ => none
  | .mk (.clo f []) => kvs s args fun vs => match box (aD aE h (idsL vs) []) with
   | .no => none
   | .mk ord => aM E call h f vs fun a h' => match box (L7 E f h h' ord) with | .mk (some (h'',c)) => q a h'' c | _ => none
  | _ => aSb E call thaw dst (.call ⟨.value (.tmp t),args.toArray,tys⟩) s h q := by
 have key := fun (f : FuncId) (caps : List D) hg => aIp (E := E) (call := call) (thaw := thaw) (dst := dst) (s := s) (h := h) (t := t) (args := args) (tys := tys) (q := q) (f := f) (caps := caps) hg
 have k2 : ∀ f,s.getD t (.d .undef) = .clo f [] → kOpD E call thaw dst (.call ⟨.value (.tmp t),args.toArray,tys⟩) s h q = kOpD E call thaw dst (.call ⟨.value (.func f),args.toArray,tys⟩) s h q := by
  intro f hg
  unfold kOpD kvs
  simp only [opds,bY,dG,hg]
  cases bY s args <;> rfl
 have fold : ∀ (f : FuncId) (h h' : H) (ord : List Nat) (a : A),(if ((E.hint f).mode == 1 && h'.length - h.length == 0) = true then q a h { ids := ord,ro := true } else q a h' { ids := ord ++ List.range' h.length (h'.length - h.length),ro := false,wr := wrC E f ord ++ List.range' h.length (h'.length - h.length) }) = match box (L7 E f h h' ord) with | .mk (some (h'',c)) => q a h'' c | _ => none := by
  intro f h h' ord a
  unfold L7
  by_cases hc : ((E.hint f).mode == 1 && h'.length - h.length == 0) = true
  ·simp only [if_pos hc,box]
  ·simp only [if_neg hc,box]
 generalize hs : s.getD t (.d .undef) = a
 cases a with
 | d x =>
  cases x with
  | fn f caps =>
   rw [key f caps ⟨hs⟩]
   simp only [fold]
   rfl
  | _ => rfl
 | clo f caps =>
  cases caps with
  | nil => rw [k2 f hs]; exact UG
  | cons c caps => rfl
 | _ => rfl
theorem QD (n : Nat) (h : H) : aD n h [] [] = [] := by cases n <;> rfl
mutual
theorem uE {f : Nat → Option Nat} : ∀ a : A,idsA a = [] → mapA f a = a
 | .d x,_ => by simp only [mapA]
 | .sl id gen off len,h => by simp [idsA] at h
 | .ptr id gen off,h => by simp [idsA] at h
 | .mp id,h => by simp [idsA] at h
 | .clo g caps,h => by simp only [idsA] at h; simp only [mapA]; rw [mQ caps h]
 | .agg cs,h => by simp only [idsA] at h; simp only [mapA]; rw [mQ cs h]
 | .tup cs,h => by simp only [idsA] at h; simp only [mapA]; rw [mQ cs h]
 | .junk,_ => by simp only [mapA]
theorem mQ {f : Nat → Option Nat} : ∀ as : List A,idsL as = [] → aG f as = as
 | [],_ => by simp only [aG]
 | a :: as,h => by
  simp only [idsL,List.append_eq_nil_iff] at h
  simp only [aG]
  rw [uE a h.1,mQ as h.2]
end
theorem aMe {a : A} (h : xT a = true) : idsA a = [] := by
 cases a with
 | d x => rfl
 | agg cs =>
  simp only [xT] at h
  simp only [idsA]
  induction cs with
  | nil => rfl
  | cons c cs ih =>
   simp only [List.all_cons,Bool.and_eq_true] at h
   simp only [idsL,ih h.2,List.append_nil]
   cases c <;> first | rfl | simp [isD] at h
 | _ => simp [xT] at h
theorem zO : ∀ {as : List A},as.all xT = true → idsL as = []
 | [],_ => rfl
 | a :: as,h => by
  simp only [List.all_cons,Bool.and_eq_true] at h
  simp only [idsL,aMe h.1,zO h.2,List.append_nil]
theorem aBk {h : H} : ∀ {cs : List A},cs.all isD = true → ∃ ds,frzL h cs = some (ds,h) ∧ ds.map .d = cs
 | [],_ => ⟨[],rfl,rfl⟩
 | c :: cs,hs => by
  simp only [List.all_cons,Bool.and_eq_true] at hs
  obtain ⟨ds,h1,h2⟩ := aBk (h := h) hs.2
  cases c with
  | d x =>
   refine ⟨x :: ds,?_,by simp [h2]⟩
   unfold frzL at h1 ⊢
   simp only [iR]
   have : frz deep h (.d x) = some (x,h) := rfl
   rw [this]
   simp only [h1]
  | _ => simp [isD] at hs
theorem xP {h : H} : ∀ {as : List A},as.all xT = true → iI h as = some (as,h)
 | [],_ => rfl
 | a :: as,hs => by
  simp only [List.all_cons,Bool.and_eq_true] at hs
  have ha : frzA h a = some (a,h) := by
   cases a with
   | d x => rfl
   | agg cs =>
    obtain ⟨ds,h1,h2⟩ := aBk (h := h) (cs := cs) (by simpa only [xT] using hs.1)
    simp only [frzA,h1,h2]
   | _ => simp [xT] at hs
  simp only [iI,ha,xP hs.2]
theorem aIA {r : A} (h : lV r = true) : pI r = true ∧ mapA (fun k => back [] 0 0 k) r = r := by
 cases r with
 | d x => cases x <;> first | exact ⟨rfl,rfl⟩ | simp [lV] at h
 | tup vs =>
  simp only [lV] at h
  have key : oC vs = true ∧ aG (fun k => back [] 0 0 k) vs = vs := by
   induction vs with
   | nil => exact ⟨rfl,by simp only [aG]⟩
   | cons v vs ih =>
    simp only [List.all_cons,Bool.and_eq_true] at h
    obtain ⟨i1,i2⟩ := ih h.2
    cases v with
    | d x => cases x <;> first | (exfalso; simp at h; done) | (refine ⟨by simp only [oC,pI,AS,i1,Bool.and_self],by simp only [aG,mapA,i2]⟩)
    | _ => simp at h
  exact ⟨by simp only [pI]; exact key.1,by simp only [mapA,key.2]⟩
 | _ => simp [lV] at h
theorem aI4 {f : FuncId} {args : List A} {r : A} (hs : args.all xT = true) (hc : call f args [] = some (r,[])) (hp : lV r = true ∨ ((E.hint f).mode == 1 || (E.hint f).mode == 3) = false) : dJ call E.hint [] f args = some (r,[]) := by
 unfold dJ
 split
 ·exact hc
 ·rename_i hm
  rw [xP hs]
  simp only [hc]
  rcases hp with hp | hp
  ·rw [hp]; rfl
  ·rw [hm] at hp; cases hp
 ·rename_i hm
  rw [xP hs]
  simp only [hc]
  rcases hp with hp | hp
  ·obtain ⟨h1,h2⟩ := aIA hp
   rw [h1]
   simp only [List.all_nil,Bool.and_self,if_true,List.length_nil,List.map_nil,List.append_nil]
   exact congrArg (fun x => some (x,([] : H))) h2
  ·rw [hm] at hp; cases hp
 ·rw [xP hs]
  simp only [hc]
theorem aX {f : FuncId} {args : List A} {r : A} (hs : args.all xT = true) (hc : call f args [] = some (r,[])) (hr : idsA r = []) (hp : lV r = true ∨ ((E.hint f).mode == 1 || (E.hint f).mode == 3) = false) : aM E call h f args k = k r h := by
 unfold aM
 rw [zO hs,QD,mQ _ (zO hs)]
 have : pack h [] = [] := rfl
 rw [this,aI4 hs hc hp]
 simp only [List.length_nil,Nat.le_refl,true_and,closed,List.all_nil,Bool.and_self,if_true,uE r hr,bK,List.map_nil,List.append_nil]
def bH (call : aY) (f : FuncId) (args : List A) (k : A → Option R) : Option R :=
 match call f args [] with
 | some (r,[]) => if lV r = true then k r else none
 | _ => none
theorem fB {f : FuncId} {args : List A} {r : A} {k : A → Option R} (hc : call f args [] = some (r,[])) (hp : lV r = true) : bH call f args k = k r := by
 unfold bH
 rw [hc]
 simp only [hp,if_true]
theorem aLD {r : A} (h : lV r = true) : idsA r = [] := by
 cases r with
 | d x => rfl
 | tup vs =>
  simp only [lV] at h
  simp only [idsA]
  induction vs with
  | nil => rfl
  | cons v vs ih =>
   simp only [List.all_cons,Bool.and_eq_true] at h
   simp only [idsL,ih h.2,List.append_nil]
   cases v with
   | d x => rfl
   | _ => simp at h
 | _ => simp [lV] at h
theorem aEA (ord : List Nat) (n : Nat) : back ord n ord.length = fun k => ord[k]? := by
 funext k
 unfold back
 split
 ·rfl
 ·rename_i h
  rw [List.getElem?_eq_none (by omega)]
theorem aGC {h : H} {ord ids : List Nat} (hc : closed h ord ids = true) (hn : ord.Nodup) (hl : ∀ i ∈ ord,i < h.length) : bK (fun (k : Nat) => ord[k]?) h ord (pack h ord) = h := by
 apply List.ext_getElem?
 intro id
 rw [D7 _ ord h _ id hn hl (by simp [pack])]
 cases hp : aI ord id with
 | none =>
  simp only []
  split
  ·rfl
  ·rename_i hge
   rw [List.getElem?_eq_none (by simp [pack]),List.getElem?_eq_none (by omega)]
   rfl
 | some k =>
  simp only []
  have hm := LL hp
  obtain ⟨o,ho⟩ : ∃ o,h[id]? = some o := ⟨h[id]'(hl id hm),List.getElem?_eq_getElem _⟩
  rw [lH (bE hp) ho,ho,Option.map_some,UH hc hm ho]
theorem aI7 {f : FuncId} {args : List A} (hm : (E.hint f).mode = 1) : aM E call h f args k = match box (aD aE h (idsL args) []) with
  | .no => none
  | .mk ord => match box (iI (pack h ord) (aG (aI ord) args)) with
   | .mk (some (fs,_)) => if closed h ord (idsL args) = true then bH call f fs fun r => k r h else none
   | _ => none := by
 unfold aM dJ
 rw [hm]
 simp only [box]
 cases hf : iI (pack h (aD aE h (idsL args) [])) (aG (aI (aD aE h (idsL args) [])) args) with
 | none => rfl
 | some r =>
  obtain ⟨fs,h1⟩ := r
  simp only [bH]
  cases hc : call f fs [] with
  | none => simp
  | some r =>
   obtain ⟨a,h2⟩ := r
   cases h2 with
   | cons o h2 => simp
   | nil =>
    simp only []
    by_cases hp : lV a = true
    ·simp only [hp,if_true]
     have hlen : (pack h (aD aE h (idsL args) [])).length = (aD aE h (idsL args) []).length := by simp [pack]
     simp only [hlen,Nat.le_refl,true_and]
     by_cases hcl : closed h (aD aE h (idsL args) []) (idsL args) = true
     ·simp only [hcl,if_true,aEA,uE a (aLD hp)]
      rw [aGC hcl (cU aE h (idsL args) [] (by simp)) (nH aE h (idsL args) [] (by simp))]
     ·simp only [hcl,Bool.false_eq_true,if_false]
    ·simp only [hp,Bool.false_eq_true,if_false]
     simp
def c7 (h : H) (args : List A) : Option (List A) := match box (aD aE h (idsL args) []) with
 | .no => none
 | .mk ord => match box (iI (pack h ord) (aG (aI ord) args)) with
  | .mk (some (fs,_)) => if closed h ord (idsL args) = true then some fs else none
  | _ => none
theorem aW {f : FuncId} {args : List A} (hm : (E.hint f).mode = 1) : aM E call h f args k = match box (c7 h args) with
  | .mk (some fs) => bH call f fs fun r => k r h
  | _ => none := by
 rw [aI7 hm]
 unfold c7
 simp only [box]
 cases iI (pack h (aD aE h (idsL args) [])) (aG (aI (aD aE h (idsL args) [])) args) with
 | none => rfl
 | some r =>
  obtain ⟨fs,h1⟩ := r
  simp only []
  by_cases hc : closed h (aD aE h (idsL args) []) (idsL args) = true
  ·simp only [if_pos hc]
  ·simp only [if_neg hc]
theorem aJN {nf : Nat} {h : H} {ord : List Nat} {s : List A} : trim nf h ord s = match box (pack h ord) with
  | .mk p => (aR nf p (aG (aI ord) s),dP nf p)
  | .no => ([],[]) := rfl
theorem aPJ {nf : Nat} {m : List Bool} {s : List A} {h : H} : gc nf m s h = match box (tidy m s) with
  | .mk s1 => match box (eU nf h (idsL s1)) with
   | .mk ord => trim nf h ord s1
   | .no => ([],[])
  | .no => ([],[]) := rfl
theorem aJs {P : Program} {nf : Nat} {exp : Bool} {rs : List ResultVar} {e : Exit} {s : List A} {h : H} : kFin P nf exp rs e s h =
  if iY e then (match oN P s h rs with
   | some rs => match qG nf exp h rs with
    | some (xs,h2) => match box (eU nf h2 (idsL xs)) with
     | .mk ord => match box (trim nf h2 ord xs) with
      | .mk r => some (tupA r.1,r.2)
      | .no => none
     | .no => none
    | none => none
   | none => none) else none := rfl
theorem vJ (nf : Nat) (h : H) (ids : List Nat) : eU nf h ids = aD 1099511627776 h (fD (h.take nf) ++ ids) (List.range nf) := rfl
theorem rng0 : List.range 0 = [] := rfl
theorem rng1 : List.range 1 = [0] := rfl
theorem rng2 : List.range 2 = [0,1] := rfl
theorem rng3 : List.range 3 = [0,1,2] := rfl
theorem A0 (h : H) (ids : List Nat) : eU 0 h ids = aD 1099511627776 h ids [] := by
 unfold eU
 simp only [List.take_zero,fD,List.nil_append,List.range_zero]
 rfl
theorem yV (n : Nat) (h : H) (acc : List Nat) : aD n h [] acc = acc := by cases n <;> rfl
theorem rY (n : Nat) (h : H) (i : Nat) (todo acc : List Nat) : aD (n + 1) h (i :: todo) acc = if acc.contains i = true then aD n h todo acc
  else match h.getD i .void with
   | .box cs => aD n h (todo ++ idsL cs) (acc ++ [i])
   | .vec cs _ _ => aD n h (todo ++ idsL cs) (acc ++ [i])
   | .void => aD n h todo acc
   | _ => aD n h todo (acc ++ [i]) := by
 simp only [aD,List.getD_eq_getElem?_getD]
 split
 ·rfl
 ·cases h[i]? with
  | none => rfl
  | some o => cases o <;> rfl
theorem aHb {α : Type} {c : Prop} [Decidable c] {a : α} (hc : c) : (if c then some a else none) = some a := if_pos hc
def iAnd (k : IntKind) (a b : Int) : Int := k.wrap (BitVec.ofInt k.bits a &&& BitVec.ofInt k.bits b).toNat
def iOr (k : IntKind) (a b : Int) : Int := k.wrap (BitVec.ofInt k.bits a ||| BitVec.ofInt k.bits b).toNat
def iXor (k : IntKind) (a b : Int) : Int := k.wrap (BitVec.ofInt k.bits a ^^^ BitVec.ofInt k.bits b).toNat
def aRT (k : IntKind) (a b : Int) : Int := k.wrap (BitVec.ofInt k.bits a &&& ~~~BitVec.ofInt k.bits b).toNat
section
variable {t : TypeId} {K : IntKind} {a b : Int}
theorem aFq : cV E .add t h (.d (.int K a)) (.d (.int K b)) = some (.d (.int K (K.wrap (a + b))),h) := by simp [cV,aBin]; rfl
theorem aFm : cV E .sub t h (.d (.int K a)) (.d (.int K b)) = some (.d (.int K (K.wrap (a - b))),h) := by simp [cV,aBin]; rfl
theorem aDP : cV E .mul t h (.d (.int K a)) (.d (.int K b)) = some (.d (.int K (K.wrap (a * b))),h) := by simp [cV,aBin]; rfl
theorem aE3 : cV E .and t h (.d (.int K a)) (.d (.int K b)) = some (.d (.int K (iAnd K a b)),h) := by simp [cV,aBin]; rfl
theorem aHv : cV E .or t h (.d (.int K a)) (.d (.int K b)) = some (.d (.int K (iOr K a b)),h) := by simp [cV,aBin]; rfl
theorem aDU : cV E .xor t h (.d (.int K a)) (.d (.int K b)) = some (.d (.int K (iXor K a b)),h) := by simp [cV,aBin]; rfl
theorem U7 : cV E .andNot t h (.d (.int K a)) (.d (.int K b)) = some (.d (.int K (aRT K a b)),h) := by simp [cV,aBin]; rfl
theorem aEd : cV E .lss t h (.d (.int K a)) (.d (.int K b)) = some (.d (.bool (decide (a < b))),h) := by simp [cV,aBin]
theorem aE9 : cV E .leq t h (.d (.int K a)) (.d (.int K b)) = some (.d (.bool (decide (a ≤ b))),h) := by simp [cV,aBin]
theorem aFn : cV E .gtr t h (.d (.int K a)) (.d (.int K b)) = some (.d (.bool (decide (b < a))),h) := by simp [cV,aBin]
theorem aEg : cV E .geq t h (.d (.int K a)) (.d (.int K b)) = some (.d (.bool (decide (b ≤ a))),h) := by simp [cV,aBin]
theorem aDQ : cV E .eql t h (.d (.int K a)) (.d (.int K b)) = some (.d (.bool (decide (a = b))),h) := by simp [cV,aBin]; rfl
theorem aDR : cV E .neq t h (.d (.int K a)) (.d (.int K b)) = some (.d (.bool (!decide (a = b))),h) := by simp [cV,aBin]; rfl
theorem aFe (hb : b ≠ 0) : cV E .quo t h (.d (.int K a)) (.d (.int K b)) = some (.d (.int K (K.wrap (a.tdiv b))),h) := by simp [cV,aBin,hb]
theorem aFw (hb : b ≠ 0) : cV E .rem t h (.d (.int K a)) (.d (.int K b)) = some (.d (.int K (a.tmod b)),h) := by simp [cV,aBin,hb]
theorem aDZ {K2 : IntKind} (hb : 0 ≤ b) : cV E .shl t h (.d (.int K a)) (.d (.int K2 b)) = some (.d (.int K (K.wrap (a * 2 ^ (min b.toNat K.bits)))),h) := by
 have : ¬ b < 0 := by omega
 simp [cV,aBin,Op.shift,this]; rfl
theorem aEu {K2 : IntKind} (hb : 0 ≤ b) : cV E .shr t h (.d (.int K a)) (.d (.int K2 b)) = some (.d (.int K (a.fdiv (2 ^ (min b.toNat K.bits)))),h) := by
 have : ¬ b < 0 := by omega
 simp [cV,aBin,Op.shift,this]; rfl
theorem aJD {b : Bool} : aUn .not (.d (.bool b)) = some (.d (.bool (!b))) := rfl
end
end
theorem WD : type_of% (AI @aBM (AI @aEJ (AI @XU (AI @aEB (AI @aAU (AI @Z3 (AI @aBm (AI @aCC (AI @aEs (AI @aHk (AI @aFx (AI @aFp (AI @aCc (AI @ZV (AI @YJ (AI @aMa (AI @aNV (AI @aJE (AI @aLo (AI @aJP (AI @aJQ (AI @aJx (AI @aNu (AI @aJb (AI @aHj (AI @aHZ (AI @NV (AI @H8 (AI @LQ (AI @aJr (AI @aNs (AI @aGA (AI @VQ (AI @aGs (AI @aGl (AI @aFi (AI @aEK (AI @aJq (AI @aEL (AI @PM (AI @TP (AI @R7 (AI @Y6 (AI @YI (AI @YA (AI @YL (AI @SK (AI @aD1 (AI @R3 (AI @aEl (AI @YR (AI @YO (AI @aEz (AI @aJs (AI @VJ (AI @aCP (AI @aE6 (AI @YQ (AI @aAZ @RU))))))))))))))))))))))))))))))))))))))))))))))))))))))))))) :=
 ⟨@aBM,@aEJ,@XU,@aEB,@aAU,@Z3,@aBm,@aCC,@aEs,@aHk,@aFx,@aFp,@aCc,@ZV,@YJ,@aMa,@aNV,@aJE,@aLo,@aJP,@aJQ,@aJx,@aNu,@aJb,@aHj,@aHZ,@NV,@H8,@LQ,@aJr,@aNs,@aGA,@VQ,@aGs,@aGl,@aFi,@aEK,@aJq,@aEL,@PM,@TP,@R7,@Y6,@YI,@YA,@YL,@SK,@aD1,@R3,@aEl,@YR,@YO,@aEz,@aJs,@VJ,@aCP,@aE6,@YQ,@aAZ,@RU⟩
theorem WDD : type_of% (AI @aDS (AI @aCi (AI @YN (AI @aBh (AI @aHA (AI @MV (AI @aEY (AI @OH (AI @aBT (AI @OV (AI @ZJ (AI @aHe (AI @aEP (AI @aFc (AI @RS (AI @aGE (AI @aJJ (AI @Q5 (AI @PG (AI @aCF (AI @aBt (AI @V1 (AI @aB5 (AI @UG (AI @aEe (AI @aFk (AI @aCK (AI @aCb (AI @Y5 (AI @TC @N0)))))))))))))))))))))))))))))) :=
 ⟨@aDS,@aCi,@YN,@aBh,@aHA,@MV,@aEY,@OH,@aBT,@OV,@ZJ,@aHe,@aEP,@aFc,@RS,@aGE,@aJJ,@Q5,@PG,@aCF,@aBt,@V1,@aB5,@UG,@aEe,@aFk,@aCK,@aCb,@Y5,@TC,@N0⟩
theorem WK0 : type_of% (AI @aLd (AI @aJD (AI @aFq (AI @aFm (AI @aDP (AI @aE3 (AI @aHv (AI @aDU (AI @U7 (AI @aFe (AI @aFw (AI @aDZ (AI @aEu (AI @aEd (AI @aE9 (AI @aFn (AI @aEg (AI @aDQ (AI @aDR (AI @ne_eq.{0} (AI @not_true_eq_false (AI @if_false.{0} (AI @if_true.{0} (AI @List.getD_nil.{0} (AI @List.getD_cons_zero.{0} (AI @List.getD_cons_succ.{0} (AI @List.set_cons_zero.{0} (AI @List.set_cons_succ.{0} (AI @aPJ @aJN))))))))))))))))))))))))))))) :=
 ⟨@aLd,@aJD,@aFq,@aFm,@aDP,@aE3,@aHv,@aDU,@U7,@aFe,@aFw,@aDZ,@aEu,@aEd,@aE9,@aFn,@aEg,@aDQ,@aDR,@ne_eq.{0},@not_true_eq_false,@if_false.{0},@if_true.{0},@List.getD_nil.{0},@List.getD_cons_zero.{0},@List.getD_cons_succ.{0},@List.set_cons_zero.{0},@List.set_cons_succ.{0},@aPJ,@aJN⟩
theorem WK1 : type_of% (AI @Bool.not_true (AI @Bool.not_false (AI @Bool.true_eq_false (AI @Bool.false_eq_true (AI @decide_eq_true_eq (AI @decide_eq_false_iff_not (AI @Option.map_some.{0,0} (AI @Option.bind_some.{0,0} (AI @List.append_nil.{0} (AI @List.nil_append.{0} (AI @List.map_nil.{0,0} (AI @decide_true (AI @decide_false (AI @Bool.not_eq_false' (AI @Bool.not_eq_true' (AI @aHb (AI @Nat.mul_one (AI @Nat.one_mul (AI @Nat.zero_add (AI @Nat.add_zero (AI @List.getElem?_cons_zero.{0} (AI @List.getElem?_cons_succ.{0} (AI @List.length_cons.{0} (AI @List.length_nil.{0} (AI @List.drop_zero.{0} (AI @List.all_cons.{0} (AI @List.all_nil.{0} (AI @Bool.and_self (AI @Bool.and_true @Bool.true_and))))))))))))))))))))))))))))) :=
 ⟨@Bool.not_true,@Bool.not_false,@Bool.true_eq_false,@Bool.false_eq_true,@decide_eq_true_eq,@decide_eq_false_iff_not,@Option.map_some.{0,0},@Option.bind_some.{0,0},@List.append_nil.{0},@List.nil_append.{0},@List.map_nil.{0,0},@decide_true,@decide_false,@Bool.not_eq_false',@Bool.not_eq_true',@aHb,@Nat.mul_one,@Nat.one_mul,@Nat.zero_add,@Nat.add_zero,@List.getElem?_cons_zero.{0},@List.getElem?_cons_succ.{0},@List.length_cons.{0},@List.length_nil.{0},@List.drop_zero.{0},@List.all_cons.{0},@List.all_nil.{0},@Bool.and_self,@Bool.and_true,@Bool.true_and⟩
theorem WK2 : type_of% (AI @Bool.false_and (AI @Bool.and_false (AI @List.map_cons.{0,0} (AI @List.zip_cons_cons.{0,0} (AI @List.zip_nil_left.{0,0} (AI @List.flatten_cons.{0} (AI @List.flatten_nil.{0} (AI @List.take_zero.{0} (AI @List.take_nil.{0} (AI @List.drop_nil.{0} (AI @List.cons_append.{0} (AI @Bool.or_self (AI @Bool.or_false (AI @Bool.false_or (AI @Nat.not_lt_zero (AI @and_self (AI @and_true (AI @true_and (AI @Bool.or_true (AI @Bool.true_or (AI @Option.map_none.{0,0} (AI @List.drop_succ_cons.{0} (AI @List.take_succ_cons.{0} (AI @Nat.lt_irrefl (AI @List.head?_cons.{0} (AI @Option.any_some.{0} (AI @List.contains_cons.{0} (AI @List.contains_nil.{0} (AI @A0 @vJ))))))))))))))))))))))))))))) :=
 ⟨@Bool.false_and,@Bool.and_false,@List.map_cons.{0,0},@List.zip_cons_cons.{0,0},@List.zip_nil_left.{0,0},@List.flatten_cons.{0},@List.flatten_nil.{0},@List.take_zero.{0},@List.take_nil.{0},@List.drop_nil.{0},@List.cons_append.{0},@Bool.or_self,@Bool.or_false,@Bool.false_or,@Nat.not_lt_zero,@and_self,@and_true,@true_and,@Bool.or_true,@Bool.true_or,@Option.map_none.{0,0},@List.drop_succ_cons.{0},@List.take_succ_cons.{0},@Nat.lt_irrefl,@List.head?_cons.{0},@Option.any_some.{0},@List.contains_cons.{0},@List.contains_nil.{0},@A0,@vJ⟩
theorem WK3 : type_of% (AI @rng0 (AI @rng1 (AI @rng2 (AI @rng3 (AI @Option.getD_none.{0} (AI @Option.isNone_none.{0} (AI @Option.isNone_some.{0} (AI @Option.isSome_none.{0} (AI @Option.isSome_some.{0} (AI @yV (AI @rY (AI @beq_self_eq_true.{0} (AI @Nat.succ_ne_self (AI @Nat.zero_ne_one (AI @Nat.one_ne_zero (AI @List.length_append.{0} (AI @false_or (AI @or_false (AI @or_true (AI @true_or (AI @List.take_length.{0} (AI @Option.toList_none.{0} @Option.toList_some.{0})))))))))))))))))))))) :=
 ⟨@rng0,@rng1,@rng2,@rng3,@Option.getD_none.{0},@Option.isNone_none.{0},@Option.isNone_some.{0},@Option.isSome_none.{0},@Option.isSome_some.{0},@yV,@rY,@beq_self_eq_true.{0},@Nat.succ_ne_self,@Nat.zero_ne_one,@Nat.one_ne_zero,@List.length_append.{0},@false_or,@or_false,@or_true,@true_or,@List.take_length.{0},@Option.toList_none.{0},@Option.toList_some.{0}⟩
theorem WK : type_of% (AI @WK0 (AI @WK1 (AI @WK2 @WK3))) :=
 ⟨@WK0,@WK1,@WK2,@WK3⟩
section
variable {E : Env} {vs : List A} {t u : TypeId} {x y : Operand}
theorem YF : eX E (.load t x) vs = true := rfl
theorem UJ {a b c : Option Operand} : eX E (.slice t x a b c) vs = true := rfl
theorem aEF : eX E (.indexAddr t x y) vs = true := rfl
theorem Z0 : eX E (.convert t u x) vs = (bG E.P u).isNone := rfl
theorem Q1 {a : Array Operand} {b : Array TypeId} : eX E (.call ⟨.builtin .append,a,b⟩) vs = false := rfl
theorem aBy {a : Array Operand} {b : Array TypeId} : eX E (.call ⟨.builtin .len,a,b⟩) vs = true := rfl
theorem aCp {a : Array Operand} {b : Array TypeId} {f : FuncId} {c : List A} : eX E (.call ⟨.value x,a,b⟩) (.clo f c :: vs) = ((E.hint f).mode == 1) := rfl
theorem aD0 {a : Array Operand} {b : Array TypeId} {f : FuncId} {c : List D} : eX E (.call ⟨.value x,a,b⟩) (.d (.fn f c) :: vs) = ((E.hint f).mode == 1) := rfl
theorem aCZ : eX E (.box t x) vs = false := rfl
theorem VO : eX E (.alloc t) vs = false := rfl
theorem RR : eX E (.assign x) vs = false := rfl
theorem SZ : eX E (.store t x y) vs = false := rfl
theorem aFg {n : Nat} {ps : Array (Nat × Operand)} : eX E (.buildSlice t n ps) vs = false := rfl
theorem aEt : eX E (.makeSlice t x y) vs = false := rfl
theorem aFu : eX E (.makeMap t none) vs = false := rfl
theorem aFd {z : Operand} : eX E (.mapUpdate t x y z) vs = false := rfl
theorem aJz {b : Bool} : cM (.lookup t x y b) = false := rfl
theorem aJI : cM (.makeMap t none) = false := rfl
theorem aJA {z : Operand} : cM (.mapUpdate t x y z) = false := rfl
theorem aAP : opds (.alloc t) = [] := rfl
theorem aEG : cM (.load t x) = false := rfl
theorem aAQ : cM (.store t x y) = false := rfl
theorem YM : cM (.assign x) = false := rfl
theorem aA2 : cM (.alloc t) = false := rfl
theorem aHm : cM (.box t x) = false := rfl
theorem aJk {n : Nat} {ps : Array (Nat × Operand)} : cM (.buildSlice t n ps) = false := rfl
theorem aDT : cM (.convert t u x) = false := rfl
theorem aJd : cM (.makeSlice t x y) = false := rfl
theorem aCH {a b c : Option Operand} : cM (.slice t x a b c) = false := rfl
theorem aJM : cM (.indexAddr t x y) = false := rfl
theorem aFr {c : Call} : cM (.call c) = false := rfl
end
theorem UNx1 : type_of% (fun v0 => @iY.eq_3 (Go.Exit.exit v0) (by nofun) (by nofun)) := by intros; rfl
theorem UNx2 : type_of% (fun v0 => @iY.eq_3 (Go.Exit.goto v0) (by nofun) (by nofun)) := by intros; rfl
theorem UNx3 : type_of% (fun v0 => @iY.eq_3 (Go.Exit.panic v0) (by nofun) (by nofun)) := by intros; rfl
theorem UNx4 : type_of% (@iY.eq_3 Go.Exit.outgrown (by nofun) (by nofun)) := (@iY.eq_3 Go.Exit.outgrown (by nofun) (by nofun))
theorem UNx5 : type_of% (fun v0 v1 v2 v3 => @outA.eq_2 v0 v1 v2 (A.d v3) (by nofun)) := by intros; rfl
theorem UNx6 : type_of% (fun v0 v1 v2 v3 v4 v5 v6 => @outA.eq_2 v0 v1 v2 (A.sl v3 v4 v5 v6) (by nofun)) := by intros; rfl
theorem UNx7 : type_of% (fun v0 v1 v2 v3 v4 v5 => @outA.eq_2 v0 v1 v2 (A.ptr v3 v4 v5) (by nofun)) := by intros; rfl
theorem UNx8 : type_of% (fun v0 v1 v2 v3 => @outA.eq_2 v0 v1 v2 (A.mp v3) (by nofun)) := by intros; rfl
theorem UNx9 : type_of% (fun v0 v1 v2 v3 v4 => @outA.eq_2 v0 v1 v2 (A.clo v3 v4) (by nofun)) := by intros; rfl
theorem aQA : type_of% (fun v0 v1 v2 v3 => @outA.eq_2 v0 v1 v2 (A.tup v3) (by nofun)) := by intros; rfl
theorem aQq : type_of% (fun v0 v1 v2 => @outA.eq_2 v0 v1 v2 A.junk (by nofun)) := by intros; rfl
theorem aQh : type_of% (fun v0 v1 v2 => @outS.eq_2 v0 v1 v2 D.undef (by nofun)) := by intros; rfl
theorem aP0 : type_of% (fun v0 v1 v2 v3 v4 => @outS.eq_2 v0 v1 v2 (D.int v3 v4) (by nofun)) := by intros; rfl
theorem aPW : type_of% (fun v0 v1 v2 v3 => @outS.eq_2 v0 v1 v2 (D.bool v3) (by nofun)) := by intros; rfl
theorem aPV : type_of% (fun v0 v1 v2 v3 => @outS.eq_2 v0 v1 v2 (D.str v3) (by nofun)) := by intros; rfl
theorem aPC : type_of% (fun v0 v1 v2 v3 v4 => @outS.eq_2 v0 v1 v2 (D.ivs v3 v4) (by nofun)) := by intros; rfl
theorem aPS : type_of% (fun v0 v1 v2 v3 => @outS.eq_2 v0 v1 v2 (D.iptr v3) (by nofun)) := by intros; rfl
theorem aQW : type_of% (fun v0 v1 v2 => @outS.eq_2 v0 v1 v2 D.nilp (by nofun)) := by intros; rfl
theorem aQI : type_of% (fun v0 v1 v2 v3 v4 => @outS.eq_2 v0 v1 v2 (D.fn v3 v4) (by nofun)) := by intros; rfl
theorem aQT : type_of% (fun v0 v1 v2 => @outS.eq_2 v0 v1 v2 D.nilfn (by nofun)) := by intros; rfl
theorem aQZ : type_of% (fun v0 v1 v2 => @outS.eq_2 v0 v1 v2 D.nili (by nofun)) := by intros; rfl
theorem aQj : type_of% (fun v0 v1 v2 => @outS.eq_2 v0 v1 v2 D.nilm (by nofun)) := by intros; rfl
theorem aPF : type_of% (fun v0 v1 v2 v3 v4 => @outS.eq_2 v0 v1 v2 (D.ifc v3 v4) (by nofun)) := by intros; rfl
theorem aPQ : type_of% (fun v0 v1 v2 v3 v4 => @outS.eq_6 v0 v1 v2 (A.clo v3 v4) (by nofun) (by nofun) (by nofun) (by nofun) (by nofun)) := by intros; rfl
theorem aP8 : type_of% (fun v0 v1 v2 v3 => @outS.eq_6 v0 v1 v2 (A.agg v3) (by nofun) (by nofun) (by nofun) (by nofun) (by nofun)) := by intros; rfl
theorem aQo : type_of% (fun v0 v1 v2 v3 => @outS.eq_6 v0 v1 v2 (A.tup v3) (by nofun) (by nofun) (by nofun) (by nofun) (by nofun)) := by intros; rfl
theorem aQg : type_of% (fun v0 v1 v2 => @outS.eq_6 v0 v1 v2 A.junk (by nofun) (by nofun) (by nofun) (by nofun) (by nofun)) := by intros; rfl
theorem aQS : type_of% (fun v0 v1 => @qF.eq_4 (List.cons v0 v1) (by nofun)) := (fun v0 v1 => @qF.eq_4 (List.cons v0 v1) (by nofun))
theorem aQe : type_of% (fun v0 v1 => @d5.eq_3 (A.d (D.int v0 v1)) (by nofun) (by nofun)) := by intros; rfl
theorem aPH : type_of% (fun v0 => @d5.eq_3 (A.d (D.bool v0)) (by nofun) (by nofun)) := by intros; rfl
theorem aQi : type_of% (fun v0 => @d5.eq_3 (A.d (D.str v0)) (by nofun) (by nofun)) := by intros; rfl
theorem aPs : type_of% (fun v0 v1 => @d5.eq_3 (A.d (D.ivs v0 v1)) (by nofun) (by nofun)) := by intros; rfl
theorem aPO : type_of% (@d5.eq_3 (A.d D.nils) (by nofun) (by nofun)) := (@d5.eq_3 (A.d D.nils) (by nofun) (by nofun))
theorem aPX : type_of% (fun v0 => @d5.eq_3 (A.d (D.iptr v0)) (by nofun) (by nofun)) := by intros; rfl
theorem aPx : type_of% (@d5.eq_3 (A.d D.nilp) (by nofun) (by nofun)) := (@d5.eq_3 (A.d D.nilp) (by nofun) (by nofun))
theorem aPt : type_of% (fun v0 v1 => @d5.eq_3 (A.d (D.fn v0 v1)) (by nofun) (by nofun)) := by intros; rfl
theorem aPA : type_of% (@d5.eq_3 (A.d D.nilfn) (by nofun) (by nofun)) := (@d5.eq_3 (A.d D.nilfn) (by nofun) (by nofun))
theorem aQK : type_of% (@d5.eq_3 (A.d D.nili) (by nofun) (by nofun)) := (@d5.eq_3 (A.d D.nili) (by nofun) (by nofun))
theorem aQl : type_of% (@d5.eq_3 (A.d D.nilm) (by nofun) (by nofun)) := (@d5.eq_3 (A.d D.nilm) (by nofun) (by nofun))
theorem aQO : type_of% (fun v0 v1 => @d5.eq_3 (A.d (D.ifc v0 v1)) (by nofun) (by nofun)) := by intros; rfl
theorem aQs : type_of% (fun v0 v1 v2 v3 => @d5.eq_3 (A.sl v0 v1 v2 v3) (by nofun) (by nofun)) := by intros; rfl
theorem aPT : type_of% (fun v0 v1 v2 => @d5.eq_3 (A.ptr v0 v1 v2) (by nofun) (by nofun)) := by intros; rfl
theorem aQR : type_of% (fun v0 => @d5.eq_3 (A.mp v0) (by nofun) (by nofun)) := by intros; rfl
theorem aPU : type_of% (fun v0 v1 => @d5.eq_3 (A.clo v0 v1) (by nofun) (by nofun)) := by intros; rfl
theorem aQC : type_of% (fun v0 => @d5.eq_3 (A.agg v0) (by nofun) (by nofun)) := by intros; rfl
theorem aP4 : type_of% (fun v0 => @d5.eq_3 (A.tup v0) (by nofun) (by nofun)) := by intros; rfl
theorem aQP : type_of% (fun v0 => @tidy.eq_3 List.nil v0 (by nofun) (by nofun)) := by intros; rfl
theorem aP3 : type_of% (fun v0 => @tidy.eq_3 (List.cons Bool.false v0) List.nil (by nofun) (by nofun)) := by intros; rfl
theorem aQt : type_of% (fun v0 => @tidy.eq_3 (List.cons Bool.true v0) List.nil (by nofun) (by nofun)) := by intros; rfl
theorem aQa : type_of% (fun v0 v1 v2 v3 v4 => @cY.eq_2 v0 v1 v2 v3 (A.d v4) (by nofun)) := by intros; rfl
theorem aPn : type_of% (fun v0 v1 v2 v3 v4 v5 v6 v7 => @cY.eq_2 v0 v1 v2 v3 (A.sl v4 v5 v6 v7) (by nofun)) := by intros; rfl
theorem aQM : type_of% (fun v0 v1 v2 v3 v4 v5 v6 => @cY.eq_2 v0 v1 v2 v3 (A.ptr v4 v5 v6) (by nofun)) := by intros; rfl
theorem aPE : type_of% (fun v0 v1 v2 v3 v4 v5 => @cY.eq_2 v0 v1 v2 v3 (A.clo v4 v5) (by nofun)) := by intros; rfl
theorem aPP : type_of% (fun v0 v1 v2 v3 v4 => @cY.eq_2 v0 v1 v2 v3 (A.agg v4) (by nofun)) := by intros; rfl
theorem aQz : type_of% (fun v0 v1 v2 v3 v4 => @cY.eq_2 v0 v1 v2 v3 (A.tup v4) (by nofun)) := by intros; rfl
theorem aQX : type_of% (fun v0 v1 v2 v3 => @cY.eq_2 v0 v1 v2 v3 A.junk (by nofun)) := by intros; rfl
theorem aPu : type_of% (fun v0 v1 v2 v3 v4 => @kB.eq_2 v0 v1 v2 (A.d v4) v3 (by nofun)) := by intros; rfl
theorem aPv : type_of% (fun v0 v1 v2 v3 v4 v5 v6 => @kB.eq_2 v0 v1 v2 (A.ptr v4 v5 v6) v3 (by nofun)) := by intros; rfl
theorem aP1 : type_of% (fun v0 v1 v2 v3 v4 => @kB.eq_2 v0 v1 v2 (A.mp v4) v3 (by nofun)) := by intros; rfl
theorem aPM : type_of% (fun v0 v1 v2 v3 v4 v5 => @kB.eq_2 v0 v1 v2 (A.clo v4 v5) v3 (by nofun)) := by intros; rfl
theorem aPz : type_of% (fun v0 v1 v2 v3 v4 => @kB.eq_2 v0 v1 v2 (A.agg v4) v3 (by nofun)) := by intros; rfl
theorem aPK : type_of% (fun v0 v1 v2 v3 v4 => @kB.eq_2 v0 v1 v2 (A.tup v4) v3 (by nofun)) := by intros; rfl
theorem aPo : type_of% (fun v0 v1 v2 v3 => @kB.eq_2 v0 v1 v2 A.junk v3 (by nofun)) := by intros; rfl
theorem aPN : type_of% (fun v0 v1 => @xX.eq_2 v0 (A.d v1) (by nofun)) := by intros; rfl
theorem aQ3 : type_of% (fun v0 v1 v2 v3 => @xX.eq_2 v0 (A.ptr v1 v2 v3) (by nofun)) := by intros; rfl
theorem aPr : type_of% (fun v0 v1 => @xX.eq_2 v0 (A.mp v1) (by nofun)) := by intros; rfl
theorem aQb : type_of% (fun v0 v1 v2 => @xX.eq_2 v0 (A.clo v1 v2) (by nofun)) := by intros; rfl
theorem aQG : type_of% (fun v0 v1 => @xX.eq_2 v0 (A.agg v1) (by nofun)) := by intros; rfl
theorem aQc : type_of% (fun v0 v1 => @xX.eq_2 v0 (A.tup v1) (by nofun)) := by intros; rfl
theorem aQL : type_of% (fun v0 => @xX.eq_2 v0 A.junk (by nofun)) := by intros; rfl
theorem aPw : type_of% (fun v0 v1 v2 => @j7.eq_2 v0 v1 (A.d v2) (by nofun)) := by intros; rfl
theorem aP6 : type_of% (fun v0 v1 v2 v3 v4 => @j7.eq_2 v0 v1 (A.ptr v2 v3 v4) (by nofun)) := by intros; rfl
theorem aP5 : type_of% (fun v0 v1 v2 => @j7.eq_2 v0 v1 (A.mp v2) (by nofun)) := by intros; rfl
theorem aQ4 : type_of% (fun v0 v1 v2 v3 => @j7.eq_2 v0 v1 (A.clo v2 v3) (by nofun)) := by intros; rfl
theorem aQQ : type_of% (fun v0 v1 v2 => @j7.eq_2 v0 v1 (A.agg v2) (by nofun)) := by intros; rfl
theorem aQV : type_of% (fun v0 v1 v2 => @j7.eq_2 v0 v1 (A.tup v2) (by nofun)) := by intros; rfl
theorem aP7 : type_of% (fun v0 v1 => @j7.eq_2 v0 v1 A.junk (by nofun)) := by intros; rfl
theorem aPY : type_of% (fun v0 v1 v2 => @frz.eq_5 v0 (A.d v2) v1 (by nofun) (by nofun) (by nofun)) := by intros; rfl
theorem aQd : type_of% (fun v0 v1 v2 => @frz.eq_5 v0 (A.mp v2) v1 (by nofun) (by nofun) (by nofun)) := by intros; rfl
theorem aQY : type_of% (fun v0 v1 v2 => @frz.eq_5 v0 (A.agg v2) v1 (by nofun) (by nofun) (by nofun)) := by intros; rfl
theorem aQk : type_of% (fun v0 v1 v2 => @frz.eq_5 v0 (A.tup v2) v1 (by nofun) (by nofun) (by nofun)) := by intros; rfl
theorem aPL : type_of% (fun v0 v1 => @frz.eq_5 v0 A.junk v1 (by nofun) (by nofun) (by nofun)) := by intros; rfl
theorem aQv : type_of% (fun v0 v1 v2 v3 => @frz0.eq_3 v0 (A.ptr v1 v2 v3) (by nofun) (by nofun)) := by intros; rfl
theorem aPy : type_of% (fun v0 v1 => @frz0.eq_3 v0 (A.mp v1) (by nofun) (by nofun)) := by intros; rfl
theorem aQH : type_of% (fun v0 v1 v2 => @frz0.eq_3 v0 (A.clo v1 v2) (by nofun) (by nofun)) := by intros; rfl
theorem aPB : type_of% (fun v0 v1 => @frz0.eq_3 v0 (A.agg v1) (by nofun) (by nofun)) := by intros; rfl
theorem aPq : type_of% (fun v0 v1 => @frz0.eq_3 v0 (A.tup v1) (by nofun) (by nofun)) := by intros; rfl
theorem aQy : type_of% (fun v0 => @frz0.eq_3 v0 A.junk (by nofun) (by nofun)) := by intros; rfl
theorem aQU : type_of% (fun v0 => @aQ.eq_2 (A.d v0) (by nofun)) := by intros; rfl
theorem aPI : type_of% (fun v0 v1 v2 v3 => @aQ.eq_2 (A.sl v0 v1 v2 v3) (by nofun)) := by intros; rfl
theorem aQB : type_of% (fun v0 v1 v2 => @aQ.eq_2 (A.ptr v0 v1 v2) (by nofun)) := by intros; rfl
theorem aQf : type_of% (fun v0 => @aQ.eq_2 (A.mp v0) (by nofun)) := by intros; rfl
theorem aP2 : type_of% (fun v0 v1 => @aQ.eq_2 (A.clo v0 v1) (by nofun)) := by intros; rfl
theorem aPZ : type_of% (fun v0 => @aQ.eq_2 (A.tup v0) (by nofun)) := by intros; rfl
theorem aPG : type_of% (@aQ.eq_2 A.junk (by nofun)) := (@aQ.eq_2 A.junk (by nofun))
theorem aQ0 : type_of% (fun v0 v1 => @cT.eq_5 (A.d (D.int v0 v1)) (by nofun) (by nofun) (by nofun) (by nofun)) := by intros; rfl
theorem aQu : type_of% (fun v0 => @cT.eq_5 (A.d (D.bool v0)) (by nofun) (by nofun) (by nofun) (by nofun)) := by intros; rfl
theorem aQw : type_of% (fun v0 => @cT.eq_5 (A.d (D.str v0)) (by nofun) (by nofun) (by nofun) (by nofun)) := by intros; rfl
theorem aQ2 : type_of% (fun v0 v1 => @cT.eq_5 (A.d (D.ivs v0 v1)) (by nofun) (by nofun) (by nofun) (by nofun)) := by intros; rfl
theorem aLE : type_of% (@cT.eq_5 (A.d D.nils) (by nofun) (by nofun) (by nofun) (by nofun)) := (@cT.eq_5 (A.d D.nils) (by nofun) (by nofun) (by nofun) (by nofun))
theorem aL9 : type_of% (fun v0 => @cT.eq_5 (A.d (D.iptr v0)) (by nofun) (by nofun) (by nofun) (by nofun)) := by intros; rfl
theorem aMA : type_of% (@cT.eq_5 (A.d D.nilp) (by nofun) (by nofun) (by nofun) (by nofun)) := (@cT.eq_5 (A.d D.nilp) (by nofun) (by nofun) (by nofun) (by nofun))
theorem aL0 : type_of% (fun v0 v1 => @cT.eq_5 (A.d (D.fn v0 v1)) (by nofun) (by nofun) (by nofun) (by nofun)) := by intros; rfl
theorem aMl : type_of% (@cT.eq_5 (A.d D.nilfn) (by nofun) (by nofun) (by nofun) (by nofun)) := (@cT.eq_5 (A.d D.nilfn) (by nofun) (by nofun) (by nofun) (by nofun))
theorem aL1 : type_of% (@cT.eq_5 (A.d D.nili) (by nofun) (by nofun) (by nofun) (by nofun)) := (@cT.eq_5 (A.d D.nili) (by nofun) (by nofun) (by nofun) (by nofun))
theorem aML : type_of% (@cT.eq_5 (A.d D.nilm) (by nofun) (by nofun) (by nofun) (by nofun)) := (@cT.eq_5 (A.d D.nilm) (by nofun) (by nofun) (by nofun) (by nofun))
theorem aNC : type_of% (fun v0 v1 => @cT.eq_5 (A.d (D.ifc v0 v1)) (by nofun) (by nofun) (by nofun) (by nofun)) := by intros; rfl
theorem aMY : type_of% (fun v0 v1 v2 v3 => @cT.eq_5 (A.sl v0 v1 v2 v3) (by nofun) (by nofun) (by nofun) (by nofun)) := by intros; rfl
theorem aM5 : type_of% (fun v0 v1 v2 => @cT.eq_5 (A.ptr v0 v1 v2) (by nofun) (by nofun) (by nofun) (by nofun)) := by intros; rfl
theorem aLC : type_of% (fun v0 => @cT.eq_5 (A.mp v0) (by nofun) (by nofun) (by nofun) (by nofun)) := by intros; rfl
theorem aLl : type_of% (fun v0 v1 => @cT.eq_5 (A.clo v0 v1) (by nofun) (by nofun) (by nofun) (by nofun)) := by intros; rfl
theorem aOa : type_of% (fun v0 => @nF.eq_2 (A.d v0) (by nofun)) := by intros; rfl
theorem aNm : type_of% (fun v0 v1 v2 v3 => @nF.eq_2 (A.sl v0 v1 v2 v3) (by nofun)) := by intros; rfl
theorem aKZ : type_of% (fun v0 v1 v2 => @nF.eq_2 (A.ptr v0 v1 v2) (by nofun)) := by intros; rfl
theorem aNH : type_of% (fun v0 => @nF.eq_2 (A.mp v0) (by nofun)) := by intros; rfl
theorem aMy : type_of% (fun v0 v1 => @nF.eq_2 (A.clo v0 v1) (by nofun)) := by intros; rfl
theorem aLv : type_of% (fun v0 => @nF.eq_2 (A.agg v0) (by nofun)) := by intros; rfl
theorem aLB : type_of% (fun v0 => @nF.eq_2 (A.tup v0) (by nofun)) := by intros; rfl
theorem aLu : type_of% (fun v0 v1 v2 v3 => @fD.eq_4 (O.arr v1 v2 v3) v0 (by nofun) (by nofun)) := by intros; rfl
theorem aLH : type_of% (fun v0 v1 v2 v3 => @fD.eq_4 (O.ice v1 v2 v3) v0 (by nofun) (by nofun)) := by intros; rfl
theorem aK7 : type_of% (fun v0 v1 => @fD.eq_4 (O.mp v1) v0 (by nofun) (by nofun)) := by intros; rfl
theorem aL7 : type_of% (fun v0 => @fD.eq_4 O.void v0 (by nofun) (by nofun)) := by intros; rfl
theorem aLL : type_of% (@tupA.eq_2 List.nil (by nofun)) := (@tupA.eq_2 List.nil (by nofun))
theorem aMk : type_of% (fun v0 v1 v2 => @tupA.eq_2 (List.cons v0 (List.cons v1 v2)) (by nofun)) := by intros; rfl
theorem aLT : type_of% (fun v0 => @HG.eq_2 List.nil v0 (by nofun)) := by intros; rfl
theorem aK4 : type_of% (fun v0 v1 => @HG.eq_2 (List.cons v1 List.nil) v0 (by nofun)) := by intros; rfl
theorem aMn : type_of% (fun v0 v1 v2 => @HG.eq_2 (List.cons v1 (List.cons v2 List.nil)) v0 (by nofun)) := by intros; rfl
theorem aNS : type_of% (fun v0 v1 v2 v3 v4 v5 => @HG.eq_2 (List.cons v1 (List.cons v2 (List.cons v3 (List.cons v4 v5)))) v0 (by nofun)) := by intros; rfl
theorem aM6 : type_of% (fun v0 v1 v2 v3 v4 => @dM.eq_2 v0 v1 (Go.Operand.tmp v4) v2 v3 (by nofun)) := by intros; rfl
theorem aM0 : type_of% (fun v0 v1 v2 v3 => @dM.eq_2 v0 v1 (Go.Operand.const v3) v2 (A.d D.undef) (by nofun)) := by intros; rfl
theorem aNQ : type_of% (fun v0 v1 v2 v3 v4 v5 => @dM.eq_2 v0 v1 (Go.Operand.const v3) v2 (A.d (D.int v4 v5)) (by nofun)) := by intros; rfl
theorem aMm : type_of% (fun v0 v1 v2 v3 v4 => @dM.eq_2 v0 v1 (Go.Operand.const v3) v2 (A.d (D.bool v4)) (by nofun)) := by intros; rfl
theorem aMH : type_of% (fun v0 v1 v2 v3 v4 => @dM.eq_2 v0 v1 (Go.Operand.const v3) v2 (A.d (D.str v4)) (by nofun)) := by intros; rfl
theorem aK9 : type_of% (fun v0 v1 v2 v3 v4 v5 => @dM.eq_2 v0 v1 (Go.Operand.const v3) v2 (A.d (D.ivs v4 v5)) (by nofun)) := by intros; rfl
theorem aNO : type_of% (fun v0 v1 v2 v3 v4 => @dM.eq_2 v0 v1 (Go.Operand.const v3) v2 (A.d (D.iptr v4)) (by nofun)) := by intros; rfl
theorem aMQ : type_of% (fun v0 v1 v2 v3 => @dM.eq_2 v0 v1 (Go.Operand.const v3) v2 (A.d D.nilp) (by nofun)) := by intros; rfl
theorem aNT : type_of% (fun v0 v1 v2 v3 v4 v5 => @dM.eq_2 v0 v1 (Go.Operand.const v3) v2 (A.d (D.fn v4 v5)) (by nofun)) := by intros; rfl
theorem aM8 : type_of% (fun v0 v1 v2 v3 => @dM.eq_2 v0 v1 (Go.Operand.const v3) v2 (A.d D.nilfn) (by nofun)) := by intros; rfl
theorem aNp : type_of% (fun v0 v1 v2 v3 => @dM.eq_2 v0 v1 (Go.Operand.const v3) v2 (A.d D.nili) (by nofun)) := by intros; rfl
theorem aN2 : type_of% (fun v0 v1 v2 v3 => @dM.eq_2 v0 v1 (Go.Operand.const v3) v2 (A.d D.nilm) (by nofun)) := by intros; rfl
theorem aLP : type_of% (fun v0 v1 v2 v3 v4 v5 => @dM.eq_2 v0 v1 (Go.Operand.const v3) v2 (A.d (D.ifc v4 v5)) (by nofun)) := by intros; rfl
theorem aLz : type_of% (fun v0 v1 v2 v3 v4 v5 v6 v7 => @dM.eq_2 v0 v1 (Go.Operand.const v3) v2 (A.sl v4 v5 v6 v7) (by nofun)) := by intros; rfl
theorem aNr : type_of% (fun v0 v1 v2 v3 v4 v5 v6 => @dM.eq_2 v0 v1 (Go.Operand.const v3) v2 (A.ptr v4 v5 v6) (by nofun)) := by intros; rfl
theorem aLe : type_of% (fun v0 v1 v2 v3 v4 => @dM.eq_2 v0 v1 (Go.Operand.const v3) v2 (A.mp v4) (by nofun)) := by intros; rfl
theorem aLr : type_of% (fun v0 v1 v2 v3 v4 v5 => @dM.eq_2 v0 v1 (Go.Operand.const v3) v2 (A.clo v4 v5) (by nofun)) := by intros; rfl
theorem aNP : type_of% (fun v0 v1 v2 v3 v4 => @dM.eq_2 v0 v1 (Go.Operand.const v3) v2 (A.agg v4) (by nofun)) := by intros; rfl
theorem aMj : type_of% (fun v0 v1 v2 v3 v4 => @dM.eq_2 v0 v1 (Go.Operand.const v3) v2 (A.tup v4) (by nofun)) := by intros; rfl
theorem aNx : type_of% (fun v0 v1 v2 v3 => @dM.eq_2 v0 v1 (Go.Operand.const v3) v2 A.junk (by nofun)) := by intros; rfl
theorem aMZ : type_of% (fun v0 v1 v2 v3 v4 => @dM.eq_2 v0 v1 (Go.Operand.global v4) v2 v3 (by nofun)) := by intros; rfl
theorem aMp : type_of% (fun v0 v1 v2 v3 v4 => @dM.eq_2 v0 v1 (Go.Operand.func v4) v2 v3 (by nofun)) := by intros; rfl
theorem aNg : type_of% (fun v0 => @bU.eq_2 (Go.Op.move v0) (by nofun)) := by intros; rfl
theorem aN5 : type_of% (fun v0 => @bU.eq_2 (Go.Op.assign v0) (by nofun)) := by intros; rfl
theorem aLp : type_of% (fun v0 v1 v2 => @bU.eq_2 (Go.Op.pick v0 v1 v2) (by nofun)) := by intros; rfl
theorem aLa : type_of% (fun v0 => @bU.eq_2 (Go.Op.alloc v0) (by nofun)) := by intros; rfl
theorem aMD : type_of% (fun v0 v1 => @bU.eq_2 (Go.Op.box v0 v1) (by nofun)) := by intros; rfl
theorem aNN : type_of% (fun v0 v1 => @bU.eq_2 (Go.Op.build v0 v1) (by nofun)) := by intros; rfl
theorem aMI : type_of% (fun v0 v1 v2 => @bU.eq_2 (Go.Op.buildSlice v0 v1 v2) (by nofun)) := by intros; rfl
theorem aNL : type_of% (fun v0 v1 v2 v3 => @bU.eq_2 (Go.Op.insert v0 v1 v2 v3) (by nofun)) := by intros; rfl
theorem aLW : type_of% (fun v0 v1 => @bU.eq_2 (Go.Op.load v0 v1) (by nofun)) := by intros; rfl
theorem aL4 : type_of% (fun v0 v1 v2 => @bU.eq_2 (Go.Op.store v0 v1 v2) (by nofun)) := by intros; rfl
theorem aK8 : type_of% (fun v0 => @bU.eq_2 (Go.Op.ready v0) (by nofun)) := by intros; rfl
theorem aLs : type_of% (fun v0 => @bU.eq_2 (Go.Op.waits v0) (by nofun)) := by intros; rfl
theorem aNW : type_of% (fun v0 => @bU.eq_2 (Go.Op.nilCheck v0) (by nofun)) := by intros; rfl
theorem aNt : type_of% (fun v0 v1 v2 v3 v4 => @bU.eq_2 (Go.Op.binOp v0 v1 v2 v3 v4) (by nofun)) := by intros; rfl
theorem aNv : type_of% (fun v0 v1 v2 => @bU.eq_2 (Go.Op.unOp v0 v1 v2) (by nofun)) := by intros; rfl
theorem aMJ : type_of% (fun v0 v1 v2 => @bU.eq_2 (Go.Op.convert v0 v1 v2) (by nofun)) := by intros; rfl
theorem aNK : type_of% (fun v0 v1 => @bU.eq_2 (Go.Op.sliceToArrayPointer v0 v1) (by nofun)) := by intros; rfl
theorem aNb : type_of% (fun v0 v1 => @bU.eq_2 (Go.Op.makeInterface v0 v1) (by nofun)) := by intros; rfl
theorem aNU : type_of% (fun v0 v1 v2 => @bU.eq_2 (Go.Op.makeFunc v0 v1 v2) (by nofun)) := by intros; rfl
theorem aNe : type_of% (fun v0 v1 => @bU.eq_2 (Go.Op.makeMap v0 v1) (by nofun)) := by intros; rfl
theorem aNF : type_of% (fun v0 v1 => @bU.eq_2 (Go.Op.makeChan v0 v1) (by nofun)) := by intros; rfl
theorem aLK : type_of% (fun v0 v1 v2 => @bU.eq_2 (Go.Op.makeSlice v0 v1 v2) (by nofun)) := by intros; rfl
theorem aMo : type_of% (fun v0 v1 v2 v3 v4 => @bU.eq_2 (Go.Op.slice v0 v1 v2 v3 v4) (by nofun)) := by intros; rfl
theorem aLU : type_of% (fun v0 v1 v2 => @bU.eq_2 (Go.Op.fieldAddr v0 v1 v2) (by nofun)) := by intros; rfl
theorem aM9 : type_of% (fun v0 v1 v2 => @bU.eq_2 (Go.Op.field v0 v1 v2) (by nofun)) := by intros; rfl
theorem aNG : type_of% (fun v0 v1 v2 => @bU.eq_2 (Go.Op.indexAddr v0 v1 v2) (by nofun)) := by intros; rfl
theorem aMV : type_of% (fun v0 v1 v2 => @bU.eq_2 (Go.Op.index v0 v1 v2) (by nofun)) := by intros; rfl
theorem aM4 : type_of% (fun v0 v1 v2 v3 => @bU.eq_2 (Go.Op.lookup v0 v1 v2 v3) (by nofun)) := by intros; rfl
theorem aOb : type_of% (fun v0 v1 v2 v3 => @bU.eq_2 (Go.Op.mapUpdate v0 v1 v2 v3) (by nofun)) := by intros; rfl
theorem aLm : type_of% (fun v0 v1 v2 => @bU.eq_2 (Go.Op.mapEntry v0 v1 v2) (by nofun)) := by intros; rfl
theorem aMW : type_of% (fun v0 v1 v2 v3 => @bU.eq_2 (Go.Op.entryStore v0 v1 v2 v3) (by nofun)) := by intros; rfl
theorem aMg : type_of% (fun v0 v1 => @bU.eq_2 (Go.Op.range v0 v1) (by nofun)) := by intros; rfl
theorem aMv : type_of% (fun v0 v1 => @bU.eq_2 (Go.Op.next v0 v1) (by nofun)) := by intros; rfl
theorem aLq : type_of% (fun v0 => @bU.eq_2 (Go.Op.entry v0) (by nofun)) := by intros; rfl
theorem aN3 : type_of% (fun v0 v1 v2 v3 => @bU.eq_2 (Go.Op.typeAssert v0 v1 v2 v3) (by nofun)) := by intros; rfl
theorem aNd : type_of% (fun v0 v1 => @bU.eq_2 (Go.Op.extract v0 v1) (by nofun)) := by intros; rfl
theorem aMO : type_of% (fun v0 => @bU.eq_2 (Go.Op.go v0) (by nofun)) := by intros; rfl
theorem aM2 : type_of% (fun v0 => @bU.eq_2 (Go.Op.defer v0) (by nofun)) := by intros; rfl
theorem aMz : type_of% (fun v0 => @bU.eq_2 (Go.Op.panic v0) (by nofun)) := by intros; rfl
theorem aLO : type_of% (fun v0 v1 => @bU.eq_2 (Go.Op.send v0 v1) (by nofun)) := by intros; rfl
theorem aK2 : type_of% (fun v0 v1 v2 => @bU.eq_2 (Go.Op.recv v0 v1 v2) (by nofun)) := by intros; rfl
theorem aNX : type_of% (fun v0 v1 => @bU.eq_2 (Go.Op.select v0 v1) (by nofun)) := by intros; rfl
theorem aMf : type_of% (fun v0 v1 => @aU.eq_3 v0 (A.d D.undef) v1 (by nofun)) := by intros; rfl
theorem aK5 : type_of% (fun v0 v1 v2 v3 => @aU.eq_3 v0 (A.d (D.int v2 v3)) v1 (by nofun)) := by intros; rfl
theorem aMF : type_of% (fun v0 v1 v2 => @aU.eq_3 v0 (A.d (D.bool v2)) v1 (by nofun)) := by intros; rfl
theorem aNz : type_of% (fun v0 v1 v2 => @aU.eq_3 v0 (A.d (D.str v2)) v1 (by nofun)) := by intros; rfl
theorem aNJ : type_of% (fun v0 v1 v2 v3 => @aU.eq_3 v0 (A.d (D.ivs v2 v3)) v1 (by nofun)) := by intros; rfl
theorem aNa : type_of% (fun v0 v1 v2 => @aU.eq_3 v0 (A.d (D.iptr v2)) v1 (by nofun)) := by intros; rfl
theorem aLM : type_of% (fun v0 v1 => @aU.eq_3 v0 (A.d D.nilp) v1 (by nofun)) := by intros; rfl
theorem aME : type_of% (fun v0 v1 v2 v3 => @aU.eq_3 v0 (A.d (D.fn v2 v3)) v1 (by nofun)) := by intros; rfl
theorem aMu : type_of% (fun v0 v1 => @aU.eq_3 v0 (A.d D.nilfn) v1 (by nofun)) := by intros; rfl
theorem aMN : type_of% (fun v0 v1 => @aU.eq_3 v0 (A.d D.nili) v1 (by nofun)) := by intros; rfl
theorem aLS : type_of% (fun v0 v1 => @aU.eq_3 v0 (A.d D.nilm) v1 (by nofun)) := by intros; rfl
theorem aLb : type_of% (fun v0 v1 v2 v3 => @aU.eq_3 v0 (A.d (D.ifc v2 v3)) v1 (by nofun)) := by intros; rfl
theorem aLI : type_of% (fun v0 v1 v2 v3 v4 v5 => @aU.eq_3 v0 (A.sl v2 v3 v4 v5) v1 (by nofun)) := by intros; rfl
theorem aLt : type_of% (fun v0 v1 v2 v3 v4 => @aU.eq_3 v0 (A.ptr v2 v3 v4) v1 (by nofun)) := by intros; rfl
theorem aL3 : type_of% (fun v0 v1 v2 => @aU.eq_3 v0 (A.mp v2) v1 (by nofun)) := by intros; rfl
theorem aMT : type_of% (fun v0 v1 v2 v3 => @aU.eq_3 v0 (A.clo v2 v3) v1 (by nofun)) := by intros; rfl
theorem aMR : type_of% (fun v0 v1 v2 => @aU.eq_3 v0 (A.agg v2) v1 (by nofun)) := by intros; rfl
theorem aMi : type_of% (fun v0 v1 v2 => @aU.eq_3 v0 (A.tup v2) v1 (by nofun)) := by intros; rfl
theorem aLA : type_of% (fun v0 v1 => @aU.eq_3 v0 A.junk v1 (by nofun)) := by intros; rfl
theorem aLx : type_of% (fun v0 v1 v2 v3 => @mapO.eq_3 v0 (O.arr v1 v2 v3) (by nofun) (by nofun)) := by intros; rfl
theorem aMb : type_of% (fun v0 v1 v2 v3 => @mapO.eq_3 v0 (O.ice v1 v2 v3) (by nofun) (by nofun)) := by intros; rfl
theorem aNj : type_of% (fun v0 v1 => @mapO.eq_3 v0 (O.mp v1) (by nofun) (by nofun)) := by intros; rfl
theorem aMx : type_of% (fun v0 => @mapO.eq_3 v0 O.void (by nofun) (by nofun)) := by intros; rfl
theorem aN9 : type_of% (fun v0 v1 => @frzA.eq_2 v0 (A.d v1) (by nofun)) := by intros; rfl
theorem aLg : type_of% (fun v0 v1 v2 v3 v4 => @frzA.eq_2 v0 (A.sl v1 v2 v3 v4) (by nofun)) := by intros; rfl
theorem aKY : type_of% (fun v0 v1 v2 v3 => @frzA.eq_2 v0 (A.ptr v1 v2 v3) (by nofun)) := by intros; rfl
theorem aLk : type_of% (fun v0 v1 => @frzA.eq_2 v0 (A.mp v1) (by nofun)) := by intros; rfl
theorem aN4 : type_of% (fun v0 v1 v2 => @frzA.eq_2 v0 (A.clo v1 v2) (by nofun)) := by intros; rfl
theorem aNI : type_of% (fun v0 v1 => @frzA.eq_2 v0 (A.tup v1) (by nofun)) := by intros; rfl
theorem aL5 : type_of% (fun v0 => @frzA.eq_2 v0 A.junk (by nofun)) := by intros; rfl
theorem aL6 : type_of% (fun v0 v1 v2 v3 v4 v5 v6 => @eS.eq_4 v0 v1 v2 (Go.Callee.invoke v5 v6) v3 v4 (by nofun) (by nofun)) := by intros; rfl
theorem UN0 : type_of% (AI @aAP (AI @aEG (AI @aAQ (AI @YM (AI @aA2 (AI @aHm (AI @aJk (AI @aDT (AI @aJd (AI @aCH (AI @aJM (AI @aFr (AI @aLen.eq_def (AI @Q1 (AI @aBy (AI @aCp (AI @aD0 (AI @YF (AI @UJ (AI @aEF (AI @Z0 (AI @aCZ (AI @VO (AI @RR (AI @SZ (AI @aFg (AI @aEt (AI @aFu (AI @aFd (AI @aJz (AI @aJI (AI @aJA (AI @List.replicate.eq_1.{0} (AI @List.replicate.eq_2.{0} (AI @List.range'.eq_1 (AI @List.range'.eq_2 (AI True.intro (AI @EG.eq_1 (AI @EG.eq_2 @OK.eq_1))))))))))))))))))))))))))))))))))))))) :=
 ⟨@aAP,@aEG,@aAQ,@YM,@aA2,@aHm,@aJk,@aDT,@aJd,@aCH,@aJM,@aFr,@aLen.eq_def,@Q1,@aBy,@aCp,@aD0,@YF,@UJ,@aEF,@Z0,@aCZ,@VO,@RR,@SZ,@aFg,@aEt,@aFu,@aFd,@aJz,@aJI,@aJA,@List.replicate.eq_1.{0},@List.replicate.eq_2.{0},@List.range'.eq_1,@List.range'.eq_2,True.intro,@EG.eq_1,@EG.eq_2,@OK.eq_1⟩
theorem UN1 : type_of% (AI @aPut.eq_1 (AI @aPut.eq_2 (AI @iY.eq_1 (AI @iY.eq_2 (AI @UNx1 (AI @UNx2 (AI @UNx3 (AI @UNx4 (AI @outA.eq_1 (AI @UNx5 (AI @UNx6 (AI @UNx7 (AI @UNx8 (AI @UNx9 (AI @aQA (AI @aQq (AI @outS.eq_1 (AI @aQh (AI @aP0 (AI @aPW (AI @aPV (AI @aPC (AI @aPS (AI @aQW (AI @aQI (AI @aQT (AI @aQZ (AI @aQj (AI @aPF (AI @outS.eq_3 (AI @outS.eq_4 (AI @outS.eq_5 (AI @aPQ (AI @aP8 (AI @aQo (AI @aQg (AI @z8.eq_1 (AI @z8.eq_2 (AI @idsA.eq_1 @idsA.eq_2))))))))))))))))))))))))))))))))))))))) :=
 ⟨@aPut.eq_1,@aPut.eq_2,@iY.eq_1,@iY.eq_2,@UNx1,@UNx2,@UNx3,@UNx4,@outA.eq_1,@UNx5,@UNx6,@UNx7,@UNx8,@UNx9,@aQA,@aQq,@outS.eq_1,@aQh,@aP0,@aPW,@aPV,@aPC,@aPS,@aQW,@aQI,@aQT,@aQZ,@aQj,@aPF,@outS.eq_3,@outS.eq_4,@outS.eq_5,@aPQ,@aP8,@aQo,@aQg,@z8.eq_1,@z8.eq_2,@idsA.eq_1,@idsA.eq_2⟩
theorem UN2 : type_of% (AI @idsA.eq_3 (AI @idsA.eq_4 (AI @idsA.eq_5 (AI @idsA.eq_6 (AI @idsA.eq_7 (AI @idsA.eq_8 (AI @idsL.eq_1 (AI @idsL.eq_2 (AI @mapA.eq_1 (AI @mapA.eq_2 (AI @mapA.eq_3 (AI @mapA.eq_4 (AI @mapA.eq_5 (AI @mapA.eq_6 (AI @mapA.eq_7 (AI @mapA.eq_8 (AI @aR.eq_1 (AI @aR.eq_2 (AI @bO.eq_1 (AI @bO.eq_2 (AI @bO.eq_3 (AI @bO.eq_4 (AI @bO.eq_5 (AI @bO.eq_6 (AI @bO.eq_7 (AI @bO.eq_8 (AI @jS.eq_1 (AI @IV.eq_1 (AI @bB.eq_1 (AI @dP.eq_1 (AI @fS.eq_1 (AI @fS.eq_2 (AI @cZ.eq_1 (AI @cZ.eq_2 (AI @cZ.eq_3 (AI @cZ.eq_4 (AI @cZ.eq_5 (AI @cZ.eq_6 (AI @aG.eq_1 @aG.eq_2))))))))))))))))))))))))))))))))))))))) :=
 ⟨@idsA.eq_3,@idsA.eq_4,@idsA.eq_5,@idsA.eq_6,@idsA.eq_7,@idsA.eq_8,@idsL.eq_1,@idsL.eq_2,@mapA.eq_1,@mapA.eq_2,@mapA.eq_3,@mapA.eq_4,@mapA.eq_5,@mapA.eq_6,@mapA.eq_7,@mapA.eq_8,@aR.eq_1,@aR.eq_2,@bO.eq_1,@bO.eq_2,@bO.eq_3,@bO.eq_4,@bO.eq_5,@bO.eq_6,@bO.eq_7,@bO.eq_8,@jS.eq_1,@IV.eq_1,@bB.eq_1,@dP.eq_1,@fS.eq_1,@fS.eq_2,@cZ.eq_1,@cZ.eq_2,@cZ.eq_3,@cZ.eq_4,@cZ.eq_5,@cZ.eq_6,@aG.eq_1,@aG.eq_2⟩
theorem UN3 : type_of% (AI @qF.eq_1 (AI @qF.eq_2 (AI @qF.eq_3 (AI @aQS (AI @d5.eq_1 (AI @d5.eq_2 (AI @aQe (AI @aPH (AI @aQi (AI @aPs (AI @aPO (AI @aPX (AI @aPx (AI @aPt (AI @aPA (AI @aQK (AI @aQl (AI @aQO (AI @aQs (AI @aPT (AI @aQR (AI @aPU (AI @aQC (AI @aP4 (AI @tidy.eq_1 (AI @tidy.eq_2 (AI @aQP (AI @aP3 (AI @aQt (AI @cY.eq_1 (AI @aQa (AI @aPn (AI @aQM (AI @aPE (AI @aPP (AI @aQz (AI @aQX (AI @cY.eq_3 (AI @kB.eq_1 @aPu))))))))))))))))))))))))))))))))))))))) :=
 ⟨@qF.eq_1,@qF.eq_2,@qF.eq_3,@aQS,@d5.eq_1,@d5.eq_2,@aQe,@aPH,@aQi,@aPs,@aPO,@aPX,@aPx,@aPt,@aPA,@aQK,@aQl,@aQO,@aQs,@aPT,@aQR,@aPU,@aQC,@aP4,@tidy.eq_1,@tidy.eq_2,@aQP,@aP3,@aQt,@cY.eq_1,@aQa,@aPn,@aQM,@aPE,@aPP,@aQz,@aQX,@cY.eq_3,@kB.eq_1,@aPu⟩
theorem UN4 : type_of% (AI @aPv (AI @aP1 (AI @aPM (AI @aPz (AI @aPK (AI @aPo (AI @pS.eq_1 (AI @rS.eq_1 (AI @HN.eq_1 (AI @xX.eq_1 (AI @aPN (AI @aQ3 (AI @aPr (AI @aQb (AI @aQG (AI @aQc (AI @aQL (AI @J2.eq_1 (AI @j7.eq_1 (AI @aPw (AI @aP6 (AI @aP5 (AI @aQ4 (AI @aQQ (AI @aQV (AI @aP7 (AI @EA.eq_1 (AI @tV.eq_1 (AI @dO.eq_1 (AI @dO.eq_2 (AI @dO.eq_3 (AI @dO.eq_4 (AI @sW.eq_1 (AI @rT.eq_1 (AI @EE.eq_1 (AI @p8.eq_1 (AI @p8.eq_2 (AI @vB.eq_1 (AI @lC.eq_1 @eP.eq_1))))))))))))))))))))))))))))))))))))))) :=
 ⟨@aPv,@aP1,@aPM,@aPz,@aPK,@aPo,@pS.eq_1,@rS.eq_1,@HN.eq_1,@xX.eq_1,@aPN,@aQ3,@aPr,@aQb,@aQG,@aQc,@aQL,@J2.eq_1,@j7.eq_1,@aPw,@aP6,@aP5,@aQ4,@aQQ,@aQV,@aP7,@EA.eq_1,@tV.eq_1,@dO.eq_1,@dO.eq_2,@dO.eq_3,@dO.eq_4,@sW.eq_1,@rT.eq_1,@EE.eq_1,@p8.eq_1,@p8.eq_2,@vB.eq_1,@lC.eq_1,@eP.eq_1⟩
theorem UN5 : type_of% (AI @eP.eq_2 (AI @eP.eq_3 (AI @frzL.eq_1 (AI @iR.eq_1 (AI @iR.eq_2 (AI @frz.eq_1 (AI @frz.eq_2 (AI @frz.eq_3 (AI @frz.eq_4 (AI @aPY (AI @aQd (AI @aQY (AI @aQk (AI @aPL (AI @frz0.eq_1 (AI @frz0.eq_2 (AI @aQv (AI @aPy (AI @aQH (AI @aPB (AI @aPq (AI @aQy (AI @deep.eq_1 (AI @aQ.eq_1 (AI @aQU (AI @aPI (AI @aQB (AI @aQf (AI @aP2 (AI @aPZ (AI @aPG (AI @bI.eq_1 (AI @cT.eq_1 (AI @cT.eq_2 (AI @cT.eq_3 (AI @cT.eq_4 (AI @aQ0 (AI @aQu (AI @aQw @aQ2))))))))))))))))))))))))))))))))))))))) :=
 ⟨@eP.eq_2,@eP.eq_3,@frzL.eq_1,@iR.eq_1,@iR.eq_2,@frz.eq_1,@frz.eq_2,@frz.eq_3,@frz.eq_4,@aPY,@aQd,@aQY,@aQk,@aPL,@frz0.eq_1,@frz0.eq_2,@aQv,@aPy,@aQH,@aPB,@aPq,@aQy,@deep.eq_1,@aQ.eq_1,@aQU,@aPI,@aQB,@aQf,@aP2,@aPZ,@aPG,@bI.eq_1,@cT.eq_1,@cT.eq_2,@cT.eq_3,@cT.eq_4,@aQ0,@aQu,@aQw,@aQ2⟩
theorem UN6 : type_of% (AI @aLE (AI @aL9 (AI @aMA (AI @aL0 (AI @aMl (AI @aL1 (AI @aML (AI @aNC (AI @aMY (AI @aM5 (AI @aLC (AI @aLl (AI @nF.eq_1 (AI @aOa (AI @aNm (AI @aKZ (AI @aNH (AI @aMy (AI @aLv (AI @aLB (AI @fD.eq_1 (AI @fD.eq_2 (AI @fD.eq_3 (AI @aLu (AI @aLH (AI @aK7 (AI @aL7 (AI @oN.eq_1 (AI @oN.eq_2 (AI @DX.eq_1 (AI @DX.eq_2 (AI @qG.eq_1 (AI @qG.eq_2 (AI @tupA.eq_1 (AI @aLL (AI @aMk (AI @jU.eq_1 (AI @jU.eq_2 (AI @jU.eq_3 @jU.eq_4))))))))))))))))))))))))))))))))))))))) :=
 ⟨@aLE,@aL9,@aMA,@aL0,@aMl,@aL1,@aML,@aNC,@aMY,@aM5,@aLC,@aLl,@nF.eq_1,@aOa,@aNm,@aKZ,@aNH,@aMy,@aLv,@aLB,@fD.eq_1,@fD.eq_2,@fD.eq_3,@aLu,@aLH,@aK7,@aL7,@oN.eq_1,@oN.eq_2,@DX.eq_1,@DX.eq_2,@qG.eq_1,@qG.eq_2,@tupA.eq_1,@aLL,@aMk,@jU.eq_1,@jU.eq_2,@jU.eq_3,@jU.eq_4⟩
theorem UN7 : type_of% (AI @vA.eq_1 (AI @vA.eq_2 (AI @opds.eq_1 (AI @opds.eq_2 (AI @opds.eq_3 (AI @opds.eq_4 (AI @opds.eq_5 (AI @opds.eq_6 (AI @opds.eq_7 (AI @opds.eq_8 (AI @opds.eq_9 (AI @opds.eq_10 (AI @opds.eq_11 (AI @opds.eq_12 (AI @opds.eq_13 (AI @opds.eq_14 (AI @opds.eq_15 (AI @opds.eq_16 (AI @opds.eq_17 (AI @opds.eq_18 (AI @opds.eq_19 (AI @opds.eq_20 (AI @opds.eq_21 (AI @opds.eq_22 (AI @opds.eq_23 (AI @opds.eq_24 (AI @evOp.eq_1 (AI @f8.eq_1 (AI @one.eq_1 (AI @two.eq_1 (AI @HG.eq_1 (AI @aLT (AI @aK4 (AI @aMn (AI @aNS (AI @DE.eq_1 (AI @DU.eq_1 (AI @dM.eq_1 (AI @aM6 @aM0))))))))))))))))))))))))))))))))))))))) :=
 ⟨@vA.eq_1,@vA.eq_2,@opds.eq_1,@opds.eq_2,@opds.eq_3,@opds.eq_4,@opds.eq_5,@opds.eq_6,@opds.eq_7,@opds.eq_8,@opds.eq_9,@opds.eq_10,@opds.eq_11,@opds.eq_12,@opds.eq_13,@opds.eq_14,@opds.eq_15,@opds.eq_16,@opds.eq_17,@opds.eq_18,@opds.eq_19,@opds.eq_20,@opds.eq_21,@opds.eq_22,@opds.eq_23,@opds.eq_24,@evOp.eq_1,@f8.eq_1,@one.eq_1,@two.eq_1,@HG.eq_1,@aLT,@aK4,@aMn,@aNS,@DE.eq_1,@DU.eq_1,@dM.eq_1,@aM6,@aM0⟩
theorem UN8 : type_of% (AI @aNQ (AI @aMm (AI @aMH (AI @aK9 (AI @aNO (AI @aMQ (AI @aNT (AI @aM8 (AI @aNp (AI @aN2 (AI @aLP (AI @aLz (AI @aNr (AI @aLe (AI @aLr (AI @aNP (AI @aMj (AI @aNx (AI @aMZ (AI @aMp (AI @aNew.eq_1 (AI @lD.eq_1 (AI @lD.eq_2 (AI @lD.eq_3 (AI @lD.eq_4 (AI @HZ.eq_1 (AI @y9.eq_1 (AI @NT.eq_1 (AI @cM.eq_1 (AI @cM.eq_2 (AI @cM.eq_3 (AI @cM.eq_4 (AI @cM.eq_5 (AI @cM.eq_6 (AI @cM.eq_7 (AI @cM.eq_8 (AI @cM.eq_9 (AI @cM.eq_10 (AI @cM.eq_11 @bU.eq_1))))))))))))))))))))))))))))))))))))))) :=
 ⟨@aNQ,@aMm,@aMH,@aK9,@aNO,@aMQ,@aNT,@aM8,@aNp,@aN2,@aLP,@aLz,@aNr,@aLe,@aLr,@aNP,@aMj,@aNx,@aMZ,@aMp,@aNew.eq_1,@lD.eq_1,@lD.eq_2,@lD.eq_3,@lD.eq_4,@HZ.eq_1,@y9.eq_1,@NT.eq_1,@cM.eq_1,@cM.eq_2,@cM.eq_3,@cM.eq_4,@cM.eq_5,@cM.eq_6,@cM.eq_7,@cM.eq_8,@cM.eq_9,@cM.eq_10,@cM.eq_11,@bU.eq_1⟩
theorem UN9 : type_of% (AI @aNg (AI @aN5 (AI @aLp (AI @aLa (AI @aMD (AI @aNN (AI @aMI (AI @aNL (AI @aLW (AI @aL4 (AI @aK8 (AI @aLs (AI @aNW (AI @aNt (AI @aNv (AI @aMJ (AI @aNK (AI @aNb (AI @aNU (AI @aNe (AI @aNF (AI @aLK (AI @aMo (AI @aLU (AI @aM9 (AI @aNG (AI @aMV (AI @aM4 (AI @aOb (AI @aLm (AI @aMW (AI @aMg (AI @aMv (AI @aLq (AI @aN3 (AI @aNd (AI @aMO (AI @aM2 (AI @aMz @aLO))))))))))))))))))))))))))))))))))))))) :=
 ⟨@aNg,@aN5,@aLp,@aLa,@aMD,@aNN,@aMI,@aNL,@aLW,@aL4,@aK8,@aLs,@aNW,@aNt,@aNv,@aMJ,@aNK,@aNb,@aNU,@aNe,@aNF,@aLK,@aMo,@aLU,@aM9,@aNG,@aMV,@aM4,@aOb,@aLm,@aMW,@aMg,@aMv,@aLq,@aN3,@aNd,@aMO,@aM2,@aMz,@aLO⟩
theorem UN10 : type_of% (AI @aK2 (AI @aNX (AI @back.eq_1 (AI @bK.eq_1 (AI @bK.eq_2 (AI @bK.eq_3 (AI @aE.eq_1 (AI @closed.eq_1 (AI @nM.eq_1 (AI @aU.eq_1 (AI @aU.eq_2 (AI @aMf (AI @aK5 (AI @aMF (AI @aNz (AI @aNJ (AI @aNa (AI @aLM (AI @aME (AI @aMu (AI @aMN (AI @aLS (AI @aLb (AI @aLI (AI @aLt (AI @aL3 (AI @aMT (AI @aMR (AI @aMi (AI @aLA (AI @aI.eq_1 (AI @aI.eq_2 (AI @pack.eq_1 (AI @mapO.eq_1 (AI @mapO.eq_2 (AI @aLx (AI @aMb (AI @aNj (AI @aMx @b5.eq_1))))))))))))))))))))))))))))))))))))))) :=
 ⟨@aK2,@aNX,@back.eq_1,@bK.eq_1,@bK.eq_2,@bK.eq_3,@aE.eq_1,@closed.eq_1,@nM.eq_1,@aU.eq_1,@aU.eq_2,@aMf,@aK5,@aMF,@aNz,@aNJ,@aNa,@aLM,@aME,@aMu,@aMN,@aLS,@aLb,@aLI,@aLt,@aL3,@aMT,@aMR,@aMi,@aLA,@aI.eq_1,@aI.eq_2,@pack.eq_1,@mapO.eq_1,@mapO.eq_2,@aLx,@aMb,@aNj,@aMx,@b5.eq_1⟩
theorem UN11 : type_of% (AI @frzA.eq_1 (AI @aN9 (AI @aLg (AI @aKY (AI @aLk (AI @aN4 (AI @aNI (AI @aL5 (AI @iI.eq_1 (AI @iI.eq_2 (AI @memD.eq_1 (AI @c7.eq_1 (AI @L7.eq_1 (AI @eS.eq_1 (AI @eS.eq_2 (AI @eS.eq_3 @aL6)))))))))))))))) :=
 ⟨@frzA.eq_1,@aN9,@aLg,@aKY,@aLk,@aN4,@aNI,@aL5,@iI.eq_1,@iI.eq_2,@memD.eq_1,@c7.eq_1,@L7.eq_1,@eS.eq_1,@eS.eq_2,@eS.eq_3,@aL6⟩
theorem UN : type_of% (AI @UN0 (AI @UN1 (AI @UN2 (AI @UN3 (AI @UN4 (AI @UN5 (AI @UN6 (AI @UN7 (AI @UN8 (AI @UN9 (AI @UN10 @UN11))))))))))) :=
 ⟨@UN0,@UN1,@UN2,@UN3,@UN4,@UN5,@UN6,@UN7,@UN8,@UN9,@UN10,@UN11⟩
theorem aPp : type_of% (fun v0 v1 v2 v3 v4 => @slim.eq_9 v0 (Go.Code.rangeFunc v1 v2 v3 v4) (by nofun) (by nofun) (by nofun) (by nofun) (by nofun) (by nofun) (by nofun) (by nofun)) := (fun v0 v1 v2 v3 v4 => @slim.eq_9 v0 (Go.Code.rangeFunc v1 v2 v3 v4) (by nofun) (by nofun) (by nofun) (by nofun) (by nofun) (by nofun) (by nofun) (by nofun))
theorem aQp : type_of% (fun v0 v1 => @slim.eq_9 v0 (Go.Code.scope v1) (by nofun) (by nofun) (by nofun) (by nofun) (by nofun) (by nofun) (by nofun) (by nofun)) := (fun v0 v1 => @slim.eq_9 v0 (Go.Code.scope v1) (by nofun) (by nofun) (by nofun) (by nofun) (by nofun) (by nofun) (by nofun) (by nofun))
theorem aQD : type_of% (fun v0 v1 => @slim.eq_9 v0 (Go.Code.label v1) (by nofun) (by nofun) (by nofun) (by nofun) (by nofun) (by nofun) (by nofun) (by nofun)) := (fun v0 v1 => @slim.eq_9 v0 (Go.Code.label v1) (by nofun) (by nofun) (by nofun) (by nofun) (by nofun) (by nofun) (by nofun) (by nofun))
theorem aQF : type_of% (fun v0 v1 => @slim.eq_9 v0 (Go.Code.goto v1) (by nofun) (by nofun) (by nofun) (by nofun) (by nofun) (by nofun) (by nofun) (by nofun)) := (fun v0 v1 => @slim.eq_9 v0 (Go.Code.goto v1) (by nofun) (by nofun) (by nofun) (by nofun) (by nofun) (by nofun) (by nofun) (by nofun))
theorem aQr : type_of% (fun v0 v1 => @slim.eq_9 v0 (Go.Code.refuse v1) (by nofun) (by nofun) (by nofun) (by nofun) (by nofun) (by nofun) (by nofun) (by nofun)) := (fun v0 v1 => @slim.eq_9 v0 (Go.Code.refuse v1) (by nofun) (by nofun) (by nofun) (by nofun) (by nofun) (by nofun) (by nofun) (by nofun))
theorem aQn : type_of% (@bS.eq_5 Go.Code.skip (by nofun) (by nofun) (by nofun) (by nofun)) := (@bS.eq_5 Go.Code.skip (by nofun) (by nofun) (by nofun) (by nofun))
theorem aQE : type_of% (fun v0 v1 v2 => @bS.eq_5 (Go.Code.region v0 v1 v2) (by nofun) (by nofun) (by nofun) (by nofun)) := (fun v0 v1 v2 => @bS.eq_5 (Go.Code.region v0 v1 v2) (by nofun) (by nofun) (by nofun) (by nofun))
theorem aPD : type_of% (fun v0 v1 v2 v3 => @bS.eq_5 (Go.Code.rangeFunc v0 v1 v2 v3) (by nofun) (by nofun) (by nofun) (by nofun)) := (fun v0 v1 v2 v3 => @bS.eq_5 (Go.Code.rangeFunc v0 v1 v2 v3) (by nofun) (by nofun) (by nofun) (by nofun))
theorem aQm : type_of% (fun v0 => @bS.eq_5 (Go.Code.exit v0) (by nofun) (by nofun) (by nofun) (by nofun)) := (fun v0 => @bS.eq_5 (Go.Code.exit v0) (by nofun) (by nofun) (by nofun) (by nofun))
theorem aNh : type_of% (fun v0 => @bS.eq_5 (Go.Code.scope v0) (by nofun) (by nofun) (by nofun) (by nofun)) := (fun v0 => @bS.eq_5 (Go.Code.scope v0) (by nofun) (by nofun) (by nofun) (by nofun))
theorem aNB : type_of% (fun v0 => @bS.eq_5 (Go.Code.label v0) (by nofun) (by nofun) (by nofun) (by nofun)) := (fun v0 => @bS.eq_5 (Go.Code.label v0) (by nofun) (by nofun) (by nofun) (by nofun))
theorem aNi : type_of% (fun v0 => @bS.eq_5 (Go.Code.goto v0) (by nofun) (by nofun) (by nofun) (by nofun)) := (fun v0 => @bS.eq_5 (Go.Code.goto v0) (by nofun) (by nofun) (by nofun) (by nofun))
theorem aNY : type_of% (@bS.eq_5 Go.Code.ret (by nofun) (by nofun) (by nofun) (by nofun)) := (@bS.eq_5 Go.Code.ret (by nofun) (by nofun) (by nofun) (by nofun))
theorem aOd : type_of% (fun v0 => @bS.eq_5 (Go.Code.refuse v0) (by nofun) (by nofun) (by nofun) (by nofun)) := (fun v0 => @bS.eq_5 (Go.Code.refuse v0) (by nofun) (by nofun) (by nofun) (by nofun))
theorem SLM0 : type_of% (AI @Option.getD_some.{0} (AI @List.length_nil.{0} (AI @Nat.add_zero (AI @Nat.zero_add (AI @List.map_cons.{0,0} (AI @List.map_nil.{0,0} (AI @List.getElem?_cons_zero.{0} (AI @List.getElem?_cons_succ.{0} (AI @Option.bind_some.{0,0} (AI @Bool.false_eq_true (AI @if_false.{0} (AI @if_true.{0} (AI @List.length_cons.{0} (AI @List.replicate.eq_1.{0} (AI @List.replicate.eq_2.{0} (AI @List.cons_append.{0} (AI @List.nil_append.{0} (AI @List.append_nil.{0} (AI @List.getD_cons_zero.{0} (AI @List.getD_cons_succ.{0} (AI @bN.eq_1 (AI @cO.eq_1 (AI @lpOf.eq_1 (AI @a6.eq_1 (AI @slim.eq_1 (AI @slim.eq_2 (AI @slim.eq_3 (AI @slim.eq_4 (AI @slim.eq_5 (AI @slim.eq_6 (AI @slim.eq_7 (AI @slim.eq_8 (AI @aPp (AI @aQp (AI @aQD (AI @aQF (AI @aQr (AI @bS.eq_1 (AI @bS.eq_2 @bS.eq_3))))))))))))))))))))))))))))))))))))))) :=
 ⟨@Option.getD_some.{0},@List.length_nil.{0},@Nat.add_zero,@Nat.zero_add,@List.map_cons.{0,0},@List.map_nil.{0,0},@List.getElem?_cons_zero.{0},@List.getElem?_cons_succ.{0},@Option.bind_some.{0,0},@Bool.false_eq_true,@if_false.{0},@if_true.{0},@List.length_cons.{0},@List.replicate.eq_1.{0},@List.replicate.eq_2.{0},@List.cons_append.{0},@List.nil_append.{0},@List.append_nil.{0},@List.getD_cons_zero.{0},@List.getD_cons_succ.{0},@bN.eq_1,@cO.eq_1,@lpOf.eq_1,@a6.eq_1,@slim.eq_1,@slim.eq_2,@slim.eq_3,@slim.eq_4,@slim.eq_5,@slim.eq_6,@slim.eq_7,@slim.eq_8,@aPp,@aQp,@aQD,@aQF,@aQr,@bS.eq_1,@bS.eq_2,@bS.eq_3⟩
theorem SLM1 : type_of% (AI @bS.eq_4 (AI @aQn (AI @aQE (AI @aPD (AI @aQm (AI @aNh (AI @aNB (AI @aNi (AI @aNY (AI @aOd (AI @HU.eq_1 (AI @LR.eq_1 @LR.eq_2)))))))))))) :=
 ⟨@bS.eq_4,@aQn,@aQE,@aPD,@aQm,@aNh,@aNB,@aNi,@aNY,@aOd,@HU.eq_1,@LR.eq_1,@LR.eq_2⟩
theorem SLM : type_of% (AI @SLM0 @SLM1) :=
 ⟨@SLM0,@SLM1⟩
theorem LN : type_of% (AI @List.length_append.{0} (AI @List.length_cons.{0} (AI @List.length_nil.{0} (AI @List.length_set.{0} (AI @List.length_replicate.{0} (AI @List.length_map.{0,0} (AI @List.length_take.{0} @List.length_drop.{0}))))))) :=
 ⟨@List.length_append.{0},@List.length_cons.{0},@List.length_nil.{0},@List.length_set.{0},@List.length_replicate.{0},@List.length_map.{0,0},@List.length_take.{0},@List.length_drop.{0}⟩
theorem GT : type_of% (AI @List.getElem?_cons_zero.{0} @List.getElem?_cons_succ.{0}) :=
 ⟨@List.getElem?_cons_zero.{0},@List.getElem?_cons_succ.{0}⟩
end Ev
end Go.Proofs.Ytppdfjdfjfoddaa
