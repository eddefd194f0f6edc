/-
  How each operation goes, in the form in which the evaluator is walked.
-/
import Derived.Test.YtppdfjdfjfoddaaDoorEvPrim
set_option linter.unusedSimpArgs false
set_option linter.unusedVariables false
namespace Go.Proofs.YtppdfjdfjfoddaaDoor
namespace Ev
section
variable {R:Type} {E:Env} {call:a7} {thaw:List Nat} {dst:Option Tmp} {s:List A} {h:H} {k:A → H → Option R}
structure Now (p:Prop):Prop where
 it:p
structure Shut (p:Prop):Prop where
 it:p
inductive Box (α:Type) where
 | mk (a:α)
 | no
def box {α:Type} (a:α):Box α:=.mk a
theorem aMS {α:Type} {a:α}:box a = .mk a:=rfl
theorem aJZ {t:Nat} {q:A → Option R}:kv s (.tmp t) q = match box (s.getD t (.d .undef)) with | .no => none | .mk a => q a:=rfl
theorem aMm {K:IntKind} {n:Int} {q:A → Option R}:kv s (.const (.int K n)) q = q (.d (.int K n)):=rfl
theorem aIm {b:Bool} {q:A → Option R}:kv s (.const (.bool b)) q = q (.d (.bool b)):=rfl
theorem aKa {b:ByteArray} {q:A → Option R}:kv s (.const (.string b)) q = match box b.data.toList with | .no => none | .mk l => q (.d (.str l)):=rfl
theorem aH2 {q:A → Option R}:kv s (.const (.pointer none)) q = q (.d .nilp):=rfl
theorem aIH {q:A → Option R}:kv s (.const (.slice none 0 0)) q = q (.d .nils):=rfl
theorem aID {f:FuncId} {q:A → Option R}:kv s (.func f) q = q (.clo f []):=rfl
theorem aMp {cs:Array Value} {q:A → Option R}:kv s (.const (.agg cs)) q = match xO cs.toList with
  | some as => q (.agg as)
  | none => none:=by
 unfold kv; simp only [dG,IN]
 cases xO cs.toList <;> rfl
theorem aIh {q:List A → Option R}:kvs s [] q = q []:=rfl
theorem aFN {x:Operand} {xs:List Operand} {q:List A → Option R}:kvs s (x :: xs) q = kv s x fun a => kvs s xs fun as => q (a :: as):=by
 unfold kvs kv
 simp only [b6]
 cases dG s x with
 | none => rfl
 | some a => cases b6 s xs <;> rfl
theorem X0 {yes no:List A → Option R}:vT none s yes no = yes s:=rfl
theorem WJ {t:Nat} {w:Bool} {yes no:List A → Option R}:vT (some (some t,w)) s yes no = match s.getD t .junk with
  | .d (.bool b) => if b = w then (match box (s.set t (.d (.bool w))) with | .no => none | .mk s => yes s) else (match box (s.set t (.d (.bool (!w)))) with | .no => none | .mk s => no s)
  | .d .undef => no s
  | _ => none:=by
 simp only [vT,List.getD_eq_getElem?_getD]
 cases s[t]? with
 | none => rfl
 | some a =>
  cases a with
  | d x => cases x <;> rfl
  | _ => rfl
theorem aFJ {x:Operand}:kOp E call thaw dst (.move x) s h k = kv s x fun a => k a h:=by
 unfold kOp kvs kv
 simp only [opds,b6]
 cases dG s x <;> rfl
def kAsg (thaw:List Nat) (dst:Option Tmp) (h:H) (k:A → H → Option R) (a:A):Option R :=
 match a with
 | .d .nils => match D3 thaw dst with
  | 0 => k (.d .nils) h
  | e + 1 => if e < 1000 then k (.sl h.length 0 0 0) (h ++ [.arr [] e 0]) else k (.sl h.length 0 0 0) (h ++ [.vec [] (e - 1000) 0])
 | a => k a h
theorem N6 {t:Nat}:kOp E call thaw dst (.assign (.tmp t)) s h k = match box (s.getD t (.d .undef)) with | .no => none | .mk a => k a h:=by
 unfold kOp kvs
 simp only [opds,b6,dG,bV,Bool.false_eq_true,if_false]
 rfl
theorem JW {v:Value}:kOp E call thaw dst (.assign (.const v)) s h k = kv s (.const v) (kAsg thaw dst h k):=by
 unfold kOp kvs kv kAsg
 simp only [opds,b6]
 cases dG s (.const v) with
 | none => rfl
 | some a =>
  simp only [bV,Bool.false_eq_true,if_false,evOp,one,dP,gC]
  cases a with
  | d x =>
   cases x with
   | nils => cases ht:D3 thaw dst with
    | zero => simp [ht]
    | succ e => by_cases he:e < 1000 <;> simp [ht,he]
   | _ => rfl
  | _ => rfl
theorem MG {f:FuncId}:kOp E call thaw dst (.assign (.func f)) s h k = k (.clo f []) h:=by
 rfl
def kRet (r:Option (A × H)) (k:A → H → Option R):Option R :=
 match r with
 | some (a,h') => k a h'
 | none => none
theorem aIl {op:BinOp} {t:TypeId} {x y:Operand} {t2:TypeId}:kOp E call thaw dst (.binOp op t x y t2) s h k = kv s x fun a => kv s y fun b => kRet (dI E op t h a b) k:=by
 unfold kOp kvs kv kRet
 simp only [opds,b6]
 cases dG s x with
 | none => rfl
 | some a => cases dG s y <;> rfl
theorem aM1 {op:UnOp} {t:TypeId} {x:Operand}:kOp E call thaw dst (.unOp op t x) s h k = kv s x fun a => kRet ((aUn op a).map fun r => (r,h)) k:=by
 unfold kOp kvs kv kRet
 simp only [opds,b6]
 cases dG s x <;> rfl
theorem aGg {c x y:Operand}:kOp E call thaw dst (.pick c x y) s h k = kv s c fun b => kv s x fun a => kv s y fun a' => kRet (N5 h [b,a,a']) k:=by
 unfold kOp kvs kv kRet
 simp only [opds,b6]
 cases dG s c with
 | none => rfl
 | some b => cases dG s x with
  | none => rfl
  | some a => cases dG s y <;> rfl
theorem TQ {x:Operand}:kOp E call thaw dst (.nilCheck x) s h k = kv s x fun a => kRet (jP h a) k:=by
 unfold kOp kvs kv kRet
 simp only [opds,b6]
 cases dG s x <;> rfl
theorem aGq {t u:TypeId} {x:Operand}:kOp E call thaw dst (.convert t u x) s h k = kv s x fun a => kRet (gI E.P h t u a) k:=by
 unfold kOp kvs kv kRet
 simp only [opds,b6]
 cases dG s x <;> rfl
theorem aGB {t:TypeId} {x:Operand}:kOp E call thaw dst (.load t x) s h k = kv s x fun a => kRet ((DG E.P h t a).map fun v => (v,h)) k:=by
 unfold kOp kvs kv kRet
 simp only [opds,b6]
 cases dG s x <;> rfl
theorem aC8 {t:TypeId} {x y:Operand}:kOp E call thaw dst (.store t x y) s h k = kv s x fun a => kv s y fun b => kRet ((mP E.P h t a b).map fun h' => (.d .undef,h')) k:=by
 unfold kOp kvs kv kRet
 simp only [opds,b6]
 cases dG s x with
 | none => rfl
 | some a => cases dG s y <;> rfl
theorem aEH {t:TypeId}:kOp E call thaw dst (.alloc t) s h k = match box (bN E.P t) with
  | .no => none
  | .mk none => none
  | .mk (some z) => kRet (aNew h z) k:=by
 unfold kOp kvs kRet
 simp only [opds,b6,bV,Bool.false_eq_true,if_false,evOp,gC,box]
 cases bN E.P t <;> rfl
theorem aIy {t:TypeId} {x:Operand}:kOp E call thaw dst (.box t x) s h k = kv s x fun a => kRet (aNew h a) k:=by
 unfold kOp kvs kv kRet
 simp only [opds,b6]
 cases dG s x <;> rfl
theorem aEo {t:TypeId} {ps:List (Nat × Operand)}:kOp E call thaw dst (.build t ps.toArray) s h k = match box (ps.map (·.2)) with
  | .no => none
  | .mk xs => kvs s xs fun vs => kRet ((gD E.P t ((ps.map (·.1)).zip vs)).map fun a => (a,h)) k:=by
 unfold kOp kRet
 rfl
theorem NA {t:TypeId} {n:Nat} {ps:List (Nat × Operand)}:kOp E call thaw dst (.buildSlice t n ps.toArray) s h k = match box (ps.map (·.2)) with
  | .no => none
  | .mk xs => kvs s xs fun vs => kRet (if GZ thaw dst = true then tV E.P h t n ((ps.map (·.1)).zip vs) else rS E.P h t n ((ps.map (·.1)).zip vs)) k:=by
 unfold kOp kRet
 rfl
theorem SP {fn:Fn} {cap:List Operand}:kOp E call thaw dst (.makeFunc fn #[] cap.toArray) s h k = kvs s cap fun vs => kRet (ON h fn true vs) k:=by
 unfold kOp kRet
 rfl
theorem QX {t:TypeId} {x y:Operand}:kOp E call thaw dst (.makeSlice t x y) s h k = kv s x fun a => kv s y fun b => kRet (kX a fun l => kX b fun c => if GZ thaw dst = true then IY E.P h t l c else kK E.P h t l c) k:=by
 unfold kOp kvs kv kRet
 simp only [opds,b6]
 cases dG s x with
 | none => rfl
 | some a => cases dG s y <;> rfl
theorem XA {t:TypeId} {x:Operand}:kOp E call thaw dst (.slice t x none none none) s h k = kvs s [x] fun vs => kRet (lB E.P h t false false vs) k:=rfl
theorem X9 {t:TypeId} {x lo:Operand}:kOp E call thaw dst (.slice t x (some lo) none none) s h k = kvs s [x,lo] fun vs => kRet (lB E.P h t true false vs) k:=rfl
theorem WQ {t:TypeId} {x hi:Operand}:kOp E call thaw dst (.slice t x none (some hi) none) s h k = kvs s [x,hi] fun vs => kRet (lB E.P h t false true vs) k:=rfl
theorem X5 {t:TypeId} {x lo hi:Operand}:kOp E call thaw dst (.slice t x (some lo) (some hi) none) s h k = kvs s [x,lo,hi] fun vs => kRet (lB E.P h t true true vs) k:=rfl
theorem RU {t:TypeId} {x:Operand} {f:Nat}:kOp E call thaw dst (.fieldAddr t x f) s h k = kv s x fun a => kRet ((a9 E.P t f).bind fun r => (uU r.1 a).map fun r => (r,h)) k:=by
 unfold kOp kvs kv kRet
 simp only [opds,b6]
 cases dG s x <;> rfl
theorem aDy {t:TypeId} {x:Operand} {f:Nat}:kOp E call thaw dst (.field t x f) s h k = kv s x fun a => kRet (yK E.P h t f a) k:=by
 unfold kOp kvs kv kRet
 simp only [opds,b6]
 cases dG s x <;> rfl
theorem QL {t:TypeId} {x y:Operand}:kOp E call thaw dst (.indexAddr t x y) s h k = kv s x fun a => kv s y fun b => kRet (kX b fun i => (qW E.P h t a i).map fun r => (r,h)) k:=by
 unfold kOp kvs kv kRet
 simp only [opds,b6]
 cases dG s x with
 | none => rfl
 | some a => cases dG s y <;> rfl
theorem aDx {t:TypeId} {x y:Operand}:kOp E call thaw dst (.index t x y) s h k = kv s x fun a => kv s y fun b => kRet (kX b fun i => (N2 E.P t a i).map fun r => (r,h)) k:=by
 unfold kOp kvs kv kRet
 simp only [opds,b6]
 cases dG s x with
 | none => rfl
 | some a => cases dG s y <;> rfl
theorem X1 {t:TypeId}:kOp E call thaw dst (.makeMap t none) s h k = k (.mp h.length) (h ++ [.mp []]):=rfl
theorem aBi {t:TypeId} {x y:Operand} {ok:Bool}:kOp E call thaw dst (.lookup t x y ok) s h k = kv s x fun a => kv s y fun b => kRet (p8 E.P h t ok a b) k:=by
 unfold kOp kvs kv kRet
 simp only [opds,b6]
 cases dG s x with
 | none => rfl
 | some a => cases dG s y <;> rfl
theorem Q6 {t:TypeId} {x y z:Operand}:kOp E call thaw dst (.mapUpdate t x y z) s h k = kv s x fun a => kv s y fun b => kv s z fun c => kRet (iS E.P h t a b c) k:=by
 unfold kOp kvs kv kRet
 simp only [opds,b6]
 cases dG s x with
 | none => rfl
 | some a => cases dG s y with
  | none => rfl
  | some b => cases dG s z <;> rfl
theorem aHC {t:TypeId} {x y z:Operand}:kOp E call thaw dst (.insert t x y z) s h k = kv s x fun a => kv s y fun b => kv s z fun c => kRet (iS E.P h t a b c) k:=by
 unfold kOp kvs kv kRet
 simp only [opds,b6]
 cases dG s x with
 | none => rfl
 | some a => cases dG s y with
  | none => rfl
  | some b => cases dG s z <;> rfl
theorem XR {x:Operand} {i:Nat}:kOp E call thaw dst (.extract x i) s h k = kv s x fun a => kRet (x3 h i a) k:=by
 unfold kOp kvs kv kRet
 simp only [opds,b6]
 cases dG s x <;> rfl
theorem WV {b:Builtin} {args:List Operand} {tys:List TypeId}:kOp E call thaw dst (.call ⟨.builtin b,args.toArray,tys.toArray⟩) s h k = kvs s args fun vs => kRet (c4 E.P h b tys vs) k:=by
 unfold kOp kRet
 rfl
theorem eG {op:Op} {q:A → H → Foot → Option R} (hp:Now (cN op = true ∧ bV op = false)):kOpD E call thaw dst op s h q = kOp E call thaw dst op s h fun a _ => q a h {}:=by
 obtain ⟨hp,hc⟩:=hp.it
 unfold kOpD kOp kvs
 rw [hp,hc]
 cases b6 s (opds op) with
 | none => rfl
 | some vs =>
  simp only [if_true,Bool.false_eq_true,if_false]
def memD (E:Env) (call:a7) (thaw:List Nat) (dst:Option Tmp) (op:Op) (h:H) (vs:List A):Option (A × H × Foot):=match box (aF aG h (idsL vs) []) with
 | .no => none
 | .mk ord => match box (evOp E call thaw (pack h ord) (gC dst op) (aH (aK ord) vs)) with
  | .mk (some (a,h1)) => if ord.length ≤ h1.length ∧ closed h ord (idsL vs) = true then
    (if (fN E op vs && h1.length - ord.length == 0) = true then some (mapA (back ord h.length h1.length) a,h,{ ids:=ord,ro:=true })
    else some (mapA (back ord h.length h1.length) a,bG (back ord h.length h1.length) h ord h1,{ ids:=ord ++ List.range' h.length (h1.length - ord.length),ro:=false,wr:=wrOf E op vs ord ++ List.range' h.length (h1.length - ord.length) }))
   else none
  | _ => none
theorem gG {op:Op} {q:A → H → Foot → Option R} (hp:Now (cN op = false ∧ m9 op = false)):kOpD E call thaw dst op s h q = match box (opds op) with | .no => none | .mk xs => kvs s xs fun vs => match box (memD E call thaw dst op h vs) with
  | .mk (some (a,h',c)) => q a h' c
  | _ => none:=by
 simp only [box]
 unfold kOpD kvs
 rw [hp.it.1,hp.it.2]
 cases b6 s (opds op) with
 | none => rfl
 | some vs =>
  simp only [Bool.false_eq_true,if_false,kV,memD,box]
  cases evOp E call thaw (pack h (aF aG h (idsL vs) [])) (gC dst op) (aH (aK (aF aG h (idsL vs) [])) vs) with
  | none => rfl
  | some r =>
   obtain ⟨a,h1⟩:=r
   by_cases hc:(aF aG h (idsL vs) []).length ≤ h1.length ∧ closed h (aF aG h (idsL vs) []) (idsL vs) = true
   ·simp only [if_pos hc]
    by_cases hr:(fN E op vs && h1.length - (aF aG h (idsL vs) []).length == 0) = true
    ·simp only [if_pos hr]
    ·simp only [if_neg hr]
   ·simp only [if_neg hc]
theorem EB {op:Op} {q:A → H → Foot → Option R} (hp:Now (cN op = false ∧ m9 op = true ∧ bV op = false)):kOpD E call thaw dst op s h q = kvs s (opds op) fun vs => kOp E call thaw dst op s h fun a _ => q a h { ids:=ids0 vs,ro:=true }:=by
 unfold kOpD kOp kvs
 rw [hp.it.1,hp.it.2.1,hp.it.2.2]
 cases b6 s (opds op) with
 | none => rfl
 | some vs => simp only [Bool.false_eq_true,if_false,if_true]
theorem J6 {x:Operand} {xs:List Operand} {op:Op} {q:A → H → Foot → Option R} (hx:opds op = x :: xs):(kvs s (opds op) fun vs => kOp E call thaw dst op s h fun a _ => q a h { ids:=ids0 vs,ro:=true }) = kv s x fun b => kOp E call thaw dst op s h fun a _ => q a h { ids:=idsA b,ro:=true }:=by
 unfold kOp kv
 rw [hx]
 unfold kvs
 simp only [b6]
 cases dG s x with
 | none => rfl
 | some b =>
  cases b6 s xs with
  | none => rfl
  | some bs => rfl
theorem aEz {t:TypeId} {x:Operand} {q:A → H → Foot → Option R}:kOpD E call thaw dst (.load t x) s h q = kv s x fun b => kOp E call thaw dst (.load t x) s h fun a _ => q a h { ids:=idsA b,ro:=true }:=(EB ⟨rfl,rfl,rfl⟩).trans (J6 rfl)
theorem XJ {t:TypeId} {x y:Operand} {ok:Bool} {q:A → H → Foot → Option R}:kOpD E call thaw dst (.lookup t x y ok) s h q = kv s x fun b => kOp E call thaw dst (.lookup t x y ok) s h fun a _ => q a h { ids:=idsA b,ro:=true }:=(EB ⟨rfl,rfl,rfl⟩).trans (J6 rfl)
theorem SI {t:TypeId} {q:A → H → Foot → Option R}:type_of% (gG (E:=E) (call:=call) (thaw:=thaw) (dst:=dst) (s:=s) (h:=h) (op:=.makeMap t none) (q:=q) ⟨rfl,rfl⟩):=gG ⟨rfl,rfl⟩
theorem N0 {t:TypeId} {x y z:Operand} {q:A → H → Foot → Option R}:type_of% (gG (E:=E) (call:=call) (thaw:=thaw) (dst:=dst) (s:=s) (h:=h) (op:=.mapUpdate t x y z) (q:=q) ⟨rfl,rfl⟩):=gG ⟨rfl,rfl⟩
theorem aAp {t:TypeId} {x y:Operand} {q:A → H → Foot → Option R}:type_of% (gG (E:=E) (call:=call) (thaw:=thaw) (dst:=dst) (s:=s) (h:=h) (op:=.store t x y) (q:=q) ⟨rfl,rfl⟩):=gG ⟨rfl,rfl⟩
theorem XK {x:Operand} {q:A → H → Foot → Option R}:type_of% (gG (E:=E) (call:=call) (thaw:=thaw) (dst:=dst) (s:=s) (h:=h) (op:=.assign x) (q:=q) ⟨rfl,rfl⟩):=gG ⟨rfl,rfl⟩
theorem aAD {t:TypeId} {q:A → H → Foot → Option R}:type_of% (gG (E:=E) (call:=call) (thaw:=thaw) (dst:=dst) (s:=s) (h:=h) (op:=.alloc t) (q:=q) ⟨rfl,rfl⟩):=gG ⟨rfl,rfl⟩
theorem aFP {t:TypeId} {x:Operand} {q:A → H → Foot → Option R}:type_of% (gG (E:=E) (call:=call) (thaw:=thaw) (dst:=dst) (s:=s) (h:=h) (op:=.box t x) (q:=q) ⟨rfl,rfl⟩):=gG ⟨rfl,rfl⟩
theorem LQ {t:TypeId} {n:Nat} {ps:List (Nat × Operand)} {q:A → H → Foot → Option R}:type_of% (gG (E:=E) (call:=call) (thaw:=thaw) (dst:=dst) (s:=s) (h:=h) (op:=.buildSlice t n ps.toArray) (q:=q) ⟨rfl,rfl⟩):=gG ⟨rfl,rfl⟩
theorem aEA {t u:TypeId} {x:Operand} {q:A → H → Foot → Option R}:type_of% (gG (E:=E) (call:=call) (thaw:=thaw) (dst:=dst) (s:=s) (h:=h) (op:=.convert t u x) (q:=q) ⟨rfl,rfl⟩):=gG ⟨rfl,rfl⟩
theorem NL {t:TypeId} {x y:Operand} {q:A → H → Foot → Option R}:type_of% (gG (E:=E) (call:=call) (thaw:=thaw) (dst:=dst) (s:=s) (h:=h) (op:=.makeSlice t x y) (q:=q) ⟨rfl,rfl⟩):=gG ⟨rfl,rfl⟩
theorem aAU {t:TypeId} {x:Operand} {lo hi mx:Option Operand} {q:A → H → Foot → Option R}:kOpD E call thaw dst (.slice t x lo hi mx) s h q = kv s x fun b => kOp E call thaw dst (.slice t x lo hi mx) s h fun a _ => q a h { ids:=idsA b,ro:=true }:=(EB ⟨rfl,rfl,rfl⟩).trans (J6 rfl)
theorem OA {t:TypeId} {x y:Operand} {q:A → H → Foot → Option R}:kOpD E call thaw dst (.indexAddr t x y) s h q = kv s x fun b => kOp E call thaw dst (.indexAddr t x y) s h fun a _ => q a h { ids:=idsA b,ro:=true }:=(EB ⟨rfl,rfl,rfl⟩).trans (J6 rfl)
theorem XE {args tys:Array _} {q:A → H → Foot → Option R}:type_of% (gG (E:=E) (call:=call) (thaw:=thaw) (dst:=dst) (s:=s) (h:=h) (op:=.call ⟨.builtin .append,args,tys⟩) (q:=q) ⟨rfl,rfl⟩):=gG ⟨rfl,rfl⟩
theorem aFr {x:Operand} {xs:List Operand} {tys:Array _} {q:A → H → Foot → Option R}:kOpD E call thaw dst (.call ⟨.builtin .len,(x :: xs).toArray,tys⟩) s h q = kv s x fun b => kOp E call thaw dst (.call ⟨.builtin .len,(x :: xs).toArray,tys⟩) s h fun a _ => q a h { ids:=idsA b,ro:=true }:=(EB ⟨rfl,rfl,rfl⟩).trans (J6 rfl)
theorem aEF {x:Operand} {q:A → H → Foot → Option R}:type_of% (eG (E:=E) (call:=call) (thaw:=thaw) (dst:=dst) (s:=s) (h:=h) (op:=.move x) (q:=q) ⟨rfl,rfl⟩):=eG ⟨rfl,rfl⟩
theorem aDk {c x y:Operand} {q:A → H → Foot → Option R}:type_of% (eG (E:=E) (call:=call) (thaw:=thaw) (dst:=dst) (s:=s) (h:=h) (op:=.pick c x y) (q:=q) ⟨rfl,rfl⟩):=eG ⟨rfl,rfl⟩
theorem RI {x:Operand} {q:A → H → Foot → Option R}:type_of% (eG (E:=E) (call:=call) (thaw:=thaw) (dst:=dst) (s:=s) (h:=h) (op:=.nilCheck x) (q:=q) ⟨rfl,rfl⟩):=eG ⟨rfl,rfl⟩
theorem aF7 {op:BinOp} {t:TypeId} {x y:Operand} {t2:TypeId} {q:A → H → Foot → Option R}:type_of% (eG (E:=E) (call:=call) (thaw:=thaw) (dst:=dst) (s:=s) (h:=h) (op:=.binOp op t x y t2) (q:=q) ⟨rfl,rfl⟩):=eG ⟨rfl,rfl⟩
theorem aIf {op:UnOp} {t:TypeId} {x:Operand} {q:A → H → Foot → Option R}:type_of% (eG (E:=E) (call:=call) (thaw:=thaw) (dst:=dst) (s:=s) (h:=h) (op:=.unOp op t x) (q:=q) ⟨rfl,rfl⟩):=eG ⟨rfl,rfl⟩
theorem RP {fn:Fn} {first cap:Array Operand} {q:A → H → Foot → Option R}:type_of% (eG (E:=E) (call:=call) (thaw:=thaw) (dst:=dst) (s:=s) (h:=h) (op:=.makeFunc fn first cap) (q:=q) ⟨rfl,rfl⟩):=eG ⟨rfl,rfl⟩
theorem N4 {t:TypeId} {x:Operand} {f:Nat} {q:A → H → Foot → Option R}:type_of% (eG (E:=E) (call:=call) (thaw:=thaw) (dst:=dst) (s:=s) (h:=h) (op:=.fieldAddr t x f) (q:=q) ⟨rfl,rfl⟩):=eG ⟨rfl,rfl⟩
theorem aBg {t:TypeId} {x:Operand} {f:Nat} {q:A → H → Foot → Option R}:type_of% (eG (E:=E) (call:=call) (thaw:=thaw) (dst:=dst) (s:=s) (h:=h) (op:=.field t x f) (q:=q) ⟨rfl,rfl⟩):=eG ⟨rfl,rfl⟩
theorem aAE {t:TypeId} {x y:Operand} {q:A → H → Foot → Option R}:type_of% (eG (E:=E) (call:=call) (thaw:=thaw) (dst:=dst) (s:=s) (h:=h) (op:=.index t x y) (q:=q) ⟨rfl,rfl⟩):=eG ⟨rfl,rfl⟩
theorem SH {x:Operand} {i:Nat} {q:A → H → Foot → Option R}:type_of% (eG (E:=E) (call:=call) (thaw:=thaw) (dst:=dst) (s:=s) (h:=h) (op:=.extract x i) (q:=q) ⟨rfl,rfl⟩):=eG ⟨rfl,rfl⟩
theorem aBY {t:TypeId} {ps:Array (Nat × Operand)} {q:A → H → Foot → Option R}:type_of% (eG (E:=E) (call:=call) (thaw:=thaw) (dst:=dst) (s:=s) (h:=h) (op:=.build t ps) (q:=q) ⟨rfl,rfl⟩):=eG ⟨rfl,rfl⟩
def aGQ (a b:Foot):Bool:=(!a.ro && (!b.ids.isEmpty && a.wr.any b.ids.contains)) || (!b.ro && (!a.ids.isEmpty && b.wr.any a.ids.contains))
theorem aOc {l:List Nat}:l.any (([]:List Nat)).contains = false:=by
 induction l with
 | nil => rfl
 | cons a l ih => simp [ih]
theorem aCX (a b:Foot):aGQ a b = oX a b:=by
 obtain ⟨ia,ra,wa⟩:=a
 obtain ⟨ib,rb,wb⟩:=b
 unfold aGQ oX
 cases ia <;> cases ib <;> simp
def mH (ops:List Oper) (cs:List Foot):Bool :=
 let b:=GF ops []
 (List.range cs.length).all fun j => (List.range j).all fun i => (b.getD j 0).testBit i || !aGQ (cs.getD i {}) (cs.getD j {})
theorem aLQ {src:List Oper} {cs:List Foot} (h:qK src cs = true):mH src cs = true:=by
 unfold mH
 simp only [aCX]
 exact h
theorem aB2 {src:List Oper} {cs:List Foot} {x:Option R} (hc:Shut (mH src cs = true)):(if qK src cs = true then x else none) = x:=if_pos (by
 have:=hc.it
 unfold mH at this
 simp only [aCX] at this
 exact this)
theorem aG3 {q:List A → H → Option R}:kOps E call thaw [] s h q = q s h:=rfl
theorem aDT {op:Op} {g:Option (Option Tmp × Bool)} {os:List SO} {q:List A → H → Option R}:kOps E call thaw (⟨dst,op,g⟩ :: os) s h q = vT g s
  (fun s => kOp E call thaw dst op s h fun a h' => match box (aPut s dst a) with | .no => none | .mk s' => kOps E call thaw os s' h' q)
  (fun s => match box (aPut s dst (.d .undef)) with | .no => none | .mk s' => kOps E call thaw os s' h q):=rfl
theorem aCZ {cs:List Foot} {q:List A → H → List Foot → Option R}:wI E call thaw [] s h cs q = q s h cs:=rfl
theorem aBL {op:Op} {g:Option (Option Tmp × Bool)} {os:List SO} {cs:List Foot} {q:List A → H → List Foot → Option R}:wI E call thaw (⟨dst,op,g⟩ :: os) s h cs q = vT g s
  (fun s => kOpD E call thaw dst op s h fun a h' c => match box (aPut s dst a) with | .no => none | .mk s' => wI E call thaw os s' h' (cs ++ [c]) q)
  (fun s => match box (aPut s dst (.d .undef)) with | .no => none | .mk s' => wI E call thaw os s' h (cs ++ [{}]) q):=rfl
section
variable {L nf:Nat} {live:List Bool} {lp:Nat → Code} {q:Exit → List A → H → Option R}
theorem aBp:aN E call L nf thaw live lp .skip s h q = q .normal s h:=rfl
theorem aDY {l:List SO}:aN E call L nf thaw live lp (.ops l) s h q = kOps E call thaw l s h fun s h => q .normal s h:=rfl
theorem XF {l:List SO} {src:Array Oper}:aN E call L nf thaw live lp (.drawn l src) s h q = wI E call thaw l s h [] fun s h cs => if qK src.toList cs = true then q .normal s h else none:=rfl
theorem aD3 {a b:SC}:aN E call L nf thaw live lp (.seq a b) s h q = aN E call L nf thaw live lp a s h fun e s h => match e with
  | .normal => aN E call L nf thaw live lp b s h q
  | e => q e s h:=rfl
theorem aAB {c:Operand} {x y:SC}:aN E call L nf thaw live lp (.cond c x y) s h q = kv s c fun a => match a with
  | .d (.bool b) => if b = true then aN E call L nf thaw live lp x s h q else aN E call L nf thaw live lp y s h q
  | _ => none:=rfl
theorem W5 {id:Nat} {c:SC}:aN E call L nf thaw live lp (.block id c) s h q = aN E call L nf thaw live lp c s h fun e s h => match e with
  | .exit i => if i = id then q .normal s h else q (.exit i) s h
  | e => q e s h:=rfl
theorem aAN {i:Nat}:aN E call L nf thaw live lp (.loop i) s h q = match box (pO live s) with
  | .no => none
  | .mk m => match box (gc nf m s h) with
   | .mk (s',h') => aU E call L nf thaw live (lp i) m L s' h' q
   | .no => none:=rfl
theorem aA4 {id:Nat}:aN E call L nf thaw live lp (.exit id) s h q = q (.exit id) s h:=rfl
theorem aD8:aN E call L nf thaw live lp .ret s h q = q .ret s h:=rfl
theorem S5 {c:Code} {m:List Bool} {n:Nat}:dS E call L nf thaw live c m n q .normal s h = match box (gc nf m s h) with
  | .mk (s',h') => aU E call L nf thaw live c m n s' h' q
  | .no => none:=rfl
theorem aBM {c:Code} {m:List Bool} {n i:Nat}:dS E call L nf thaw live c m n q (.exit i) s h = match box (gc nf m s h) with
  | .mk (s',h') => q (.exit i) s' h'
  | .no => none:=rfl
theorem aED {c:Code} {m:List Bool} {n:Nat}:dS E call L nf thaw live c m n q .ret s h = match box (gc nf m s h) with
  | .mk (s',h') => q .ret s' h'
  | .no => none:=rfl
end
def aL (E:Env) (call:a7) (h:H) (f:FuncId) (args:List A) (k:A → H → Option R):Option R :=
 match dO call E.hint (pack h (aF aG h (idsL args) [])) f (aH (aK (aF aG h (idsL args) [])) args) with
 | some (a,h1) =>
  if (aF aG h (idsL args) []).length ≤ h1.length ∧ closed h (aF aG h (idsL args) []) (idsL args) = true then
   k (mapA (back (aF aG h (idsL args) []) h.length h1.length) a) (bG (back (aF aG h (idsL args) []) h.length h1.length) h (aF aG h (idsL args) []) h1)
  else none
 | none => none
theorem aOk {f:FuncId} {args:List Operand} {tys:Array TypeId}:kOp E call thaw dst (.call ⟨.value (.func f),args.toArray,tys⟩) s h k = kvs s args fun vs => aL E call h f vs k:=by
 unfold kOp kvs aL
 simp only [opds,b6,dG]
 cases b6 s args with
 | none => rfl
 | some vs =>
  simp only [bV,if_true,kV,idsL,idsA,List.nil_append,aH,mapA,evOp,fE,iW,gC,List.append_nil]
  cases dO call E.hint (pack h (aF aG h (idsL vs) [])) f (aH (aK (aF aG h (idsL vs) [])) vs) with
  | none => rfl
  | some r =>
   obtain ⟨a,h1⟩:=r
   by_cases c1:(aF aG h (idsL vs) []).length ≤ h1.length <;> by_cases c2:closed h (aF aG h (idsL vs) []) (idsL vs) = true <;> simp [c1,c2]
theorem aDn {f:FuncId} {args:List Operand} {tys:Array TypeId}:kOp E call thaw dst (.call ⟨.value (.func f),args.toArray,tys⟩) s h k = kvs s args fun vs => aL E call h f vs fun a h' => match box h' with | .no => none | .mk h'' => k a h'':=by
 rw [aOk]
 rfl
def A0 (E:Env) (call:a7) (h:H) (f:FuncId) (caps args:List A) (k:A → H → Option R):Option R :=
 match dO call E.hint (pack h (aF aG h (idsL caps ++ idsL args) [])) f (aH (aK (aF aG h (idsL caps ++ idsL args) [])) args ++ aH (aK (aF aG h (idsL caps ++ idsL args) [])) caps) with
 | some (a,h1) =>
  if (aF aG h (idsL caps ++ idsL args) []).length ≤ h1.length ∧ closed h (aF aG h (idsL caps ++ idsL args) []) (idsL caps ++ idsL args) = true then
   k (mapA (back (aF aG h (idsL caps ++ idsL args) []) h.length h1.length) a) (bG (back (aF aG h (idsL caps ++ idsL args) []) h.length h1.length) h (aF aG h (idsL caps ++ idsL args) []) h1)
  else none
 | none => none
def qH (E:Env) (call:a7) (h:H) (g:A) (args:List A) (k:A → H → Option R):Option R :=
 match g with
 | .d (.fn f caps) => aL E call h f (args ++ caps.map .d) k
 | .clo f caps => A0 E call h f caps args k
 | _ => none
theorem bY:∀ (as bs:List A),idsL (as ++ bs) = idsL as ++ idsL bs
 | [],bs => by simp [idsL]
 | a :: as,bs => by simp [idsL,bY as bs]
theorem aFo:∀ (ds:List D),idsL (ds.map .d) = []
 | [] => by simp [idsL]
 | d :: ds => by simp [idsL,idsA,aFo ds]
theorem eQ {f:Nat → Option Nat}:∀ (as bs:List A),aH f (as ++ bs) = aH f as ++ aH f bs
 | [],bs => by simp [aH]
 | a :: as,bs => by simp [aH,eQ as bs]
theorem aCi {f:Nat → Option Nat}:∀ (ds:List D),aH f (ds.map .d) = ds.map .d
 | [] => by simp [aH]
 | d :: ds => by simp [aH,mapA,aCi ds]
theorem aJV {g:A} {vs:List A} {tys:Array TypeId} {x:Operand} {args:Array Operand}:(match kV E call thaw h (gC dst (.call ⟨.value x,args,tys⟩)) (g :: vs) with
   | some (a,h',_) => k a h'
   | none => none) = qH E call h g vs k:=by
 unfold kV
 simp only [evOp,fE,gC,aH]
 cases g with
 | d y =>
  cases y with
  | fn f caps =>
   simp only [qH,aL,mapA,iW,idsL,idsA,List.nil_append,bY,aFo,List.append_nil,eQ,aCi]
   cases dO call E.hint (pack h (aF aG h (idsL vs) [])) f (aH (aK (aF aG h (idsL vs) [])) vs ++ caps.map .d) with
   | none => rfl
   | some r =>
    obtain ⟨a,h1⟩:=r
    by_cases c1:(aF aG h (idsL vs) []).length ≤ h1.length <;> by_cases c2:closed h (aF aG h (idsL vs) []) (idsL vs) = true <;> simp [c1,c2]
  | _ => simp only [qH,mapA,iW]
 | clo f caps =>
  simp only [qH,A0,mapA,iW,idsL,idsA]
  cases dO call E.hint (pack h (aF aG h (idsL caps ++ idsL vs) [])) f (aH (aK (aF aG h (idsL caps ++ idsL vs) [])) vs ++ aH (aK (aF aG h (idsL caps ++ idsL vs) [])) caps) with
  | none => rfl
  | some r =>
   obtain ⟨a,h1⟩:=r
   by_cases c1:(aF aG h (idsL caps ++ idsL vs) []).length ≤ h1.length <;> by_cases c2:closed h (aF aG h (idsL caps ++ idsL vs) []) (idsL caps ++ idsL vs) = true <;> simp [c1,c2]
 | sl id gen off len =>
  simp only [qH,mapA]
  cases aK (aF aG h (idsL (A.sl id gen off len :: vs)) []) id <;> rfl
 | ptr id gen off =>
  simp only [qH,mapA]
  cases aK (aF aG h (idsL (A.ptr id gen off :: vs)) []) id <;> rfl
 | mp id =>
  simp only [qH,mapA]
  cases aK (aF aG h (idsL (A.mp id :: vs)) []) id <;> rfl
 | agg cs => simp only [qH,mapA,iW]
 | tup cs => simp only [qH,mapA,iW]
 | junk => simp only [qH,mapA,iW]
theorem aDJ {t:Nat} {args:List Operand} {tys:Array TypeId}:kOp E call thaw dst (.call ⟨.value (.tmp t),args.toArray,tys⟩) s h k = match box (s.getD t (.d .undef)) with
  | .no => none
  | .mk g => kvs s args fun vs => qH E call h g vs k:=by
 unfold kOp kvs
 simp only [opds,b6,dG,box]
 cases b6 s args with
 | none => rfl
 | some vs => simp only [bV,if_true]; exact aJV
theorem aCY {f:FuncId} {caps:List D} {vs:List A}:qH E call h (.d (.fn f caps)) vs k = match box (vs ++ caps.map .d) with | .no => none | .mk as' => aL E call h f as' k:=rfl
theorem aAx {f:FuncId} {caps vs:List A}:qH E call h (.clo f caps) vs k = A0 E call h f caps vs k:=rfl
theorem aAe {f:FuncId} {vs:List A}:A0 E call h f [] vs k = aL E call h f vs k:=by
 unfold A0 aL
 simp only [idsL,List.nil_append,aH,List.append_nil]
 rfl
theorem ZH {h:H} {ids:List Nat} {h1:H} {ord:List Nat}:∀ (ord:List Nat) (h h1:H) (f:Nat → Option Nat),ord.length ≤ h1.length → (bG f h ord h1).length = h.length + (h1.length - ord.length)
 | [],h,h1,f,_ => by simp [bG]
 | i :: ord,h,[],f,hl => by simp at hl
 | i :: ord,h,o :: h1,f,hl => by
  simp only [bG,ZH (h:=h) (ids:=ids) (h1:=h1) (ord:=ord) ord _ h1 f (by simpa using hl),List.length_set,List.length_cons]
  omega
def wrC (E:Env) (f:FuncId) (ord:List Nat):List Nat:=if (E.hint f).mode == 3 then [] else ord
def L5 (E:Env) (f:FuncId) (h h':H) (ord:List Nat):Option (H × Foot):=if ((E.hint f).mode == 1 && h'.length - h.length == 0) = true then some (h,{ ids:=ord,ro:=true }) else some (h',{ ids:=ord ++ List.range' h.length (h'.length - h.length),ro:=false,wr:=wrC E f ord ++ List.range' h.length (h'.length - h.length) })
theorem aIL {f:FuncId} {args:List Operand} {tys:Array TypeId} {q:A → H → Foot → Option R}:kOpD E call thaw dst (.call ⟨.value (.func f),args.toArray,tys⟩) s h q = kvs s args fun vs => match box (aF aG h (idsL vs) []) with
  | .no => none
  | .mk ord => aL E call h f vs fun a h' => if ((E.hint f).mode == 1 && h'.length - h.length == 0) = true then q a h { ids:=ord,ro:=true } else q a h' { ids:=ord ++ List.range' h.length (h'.length - h.length),ro:=false,wr:=wrC E f ord ++ List.range' h.length (h'.length - h.length) }:=by
 unfold kOpD kvs aL
 simp only [opds,b6,dG,box]
 cases b6 s args with
 | none => rfl
 | some vs =>
  simp only [cN,m9,Bool.false_eq_true,if_false,kV,idsL,idsA,List.nil_append,aH,mapA,evOp,fE,iW,gC,List.append_nil,fN]
  cases dO call E.hint (pack h (aF aG h (idsL vs) [])) f (aH (aK (aF aG h (idsL vs) [])) vs) with
  | none => rfl
  | some r =>
   obtain ⟨a,h1⟩:=r
   by_cases c1:(aF aG h (idsL vs) []).length ≤ h1.length
   ·by_cases c2:closed h (aF aG h (idsL vs) []) (idsL vs) = true
    ·have e:=ZH (h:=h) (ids:=idsL vs) (h1:=h1) (ord:=[]) (aF aG h (idsL vs) []) h h1 (back (aF aG h (idsL vs) []) h.length h1.length) c1
     have e2:(bG (back (aF aG h (idsL vs) []) h.length h1.length) h (aF aG h (idsL vs) []) h1).length - h.length = h1.length - (aF aG h (idsL vs) []).length:=by omega
     simp only [c1,c2,and_self,if_true,e2]
     first | done | rfl | (by_cases c3:((E.hint f).mode == 1 && h1.length - (aF aG h (idsL vs) []).length == 0) = true <;> simp [c3])
    ·simp only [c2,and_false,if_false,Bool.false_eq_true]
   ·simp only [c1,false_and,if_false]
theorem SM {f:FuncId} {args:List Operand} {tys:Array TypeId} {q:A → H → Foot → Option R}:kOpD E call thaw dst (.call ⟨.value (.func f),args.toArray,tys⟩) s h q = kvs s args fun vs => match box (aF aG h (idsL vs) []) with
  | .no => none
  | .mk ord => aL E call h f vs fun a h' => match box (L5 E f h h' ord) with | .mk (some (h'',c)) => q a h'' c | _ => none:=by
 rw [aIL]
 congr 1
 funext vs
 simp only [box]
 congr 1
 funext a h'
 unfold L5
 by_cases hc:((E.hint f).mode == 1 && h'.length - h.length == 0) = true
 ·simp only [if_pos hc]
 ·simp only [if_neg hc]
theorem aHt {t:Nat} {args:List Operand} {tys:Array TypeId} {q:A → H → Foot → Option R} {f:FuncId} {caps:List D} (hg:Now (s.getD t (.d .undef) = .d (.fn f caps))):kOpD E call thaw dst (.call ⟨.value (.tmp t),args.toArray,tys⟩) s h q = kvs s args fun vs => match box (aF aG h (idsL vs) []) with
  | .no => none
  | .mk ord => aL E call h f (vs ++ caps.map .d) fun a h' => if ((E.hint f).mode == 1 && h'.length - h.length == 0) = true then q a h { ids:=ord,ro:=true } else q a h' { ids:=ord ++ List.range' h.length (h'.length - h.length),ro:=false,wr:=wrC E f ord ++ List.range' h.length (h'.length - h.length) }:=by
 have hg:=hg.it
 unfold kOpD kvs aL
 simp only [opds,b6,dG,box,hg]
 cases b6 s args with
 | none => rfl
 | some vs =>
  simp only [cN,m9,Bool.false_eq_true,if_false,kV,idsL,idsA,List.nil_append,aH,mapA,evOp,fE,iW,gC,List.append_nil,fN,bY,aFo,eQ,aCi]
  cases dO call E.hint (pack h (aF aG h (idsL vs) [])) f (aH (aK (aF aG h (idsL vs) [])) vs ++ caps.map .d) with
  | none => rfl
  | some r =>
   obtain ⟨a,h1⟩:=r
   by_cases c1:(aF aG h (idsL vs) []).length ≤ h1.length
   ·by_cases c2:closed h (aF aG h (idsL vs) []) (idsL vs) = true
    ·have e:=ZH (h:=h) (ids:=idsL vs) (h1:=h1) (ord:=[]) (aF aG h (idsL vs) []) h h1 (back (aF aG h (idsL vs) []) h.length h1.length) c1
     have e2:(bG (back (aF aG h (idsL vs) []) h.length h1.length) h (aF aG h (idsL vs) []) h1).length - h.length = h1.length - (aF aG h (idsL vs) []).length:=by omega
     simp only [c1,c2,and_self,if_true,e2]
     first | done | rfl | (by_cases c3:((E.hint f).mode == 1 && h1.length - (aF aG h (idsL vs) []).length == 0) = true <;> simp [c3])
    ·simp only [c2,and_false,if_false,Bool.false_eq_true]
   ·simp only [c1,false_and,if_false]
def aRL (E:Env) (call:a7) (thaw:List Nat) (dst:Option Tmp) (op:Op) (s:List A) (h:H) (q:A → H → Foot → Option R):Option R:=kOpD E call thaw dst op s h q
theorem aA6 {t:Nat} {args:List Operand} {tys:Array TypeId} {q:A → H → Foot → Option R}:kOpD E call thaw dst (.call ⟨.value (.tmp t),args.toArray,tys⟩) s h q = match box (s.getD t (.d .undef)) with
  | .mk (.d (.fn f caps)) => kvs s args fun vs => match box (aF aG h (idsL vs) []) with
   | .no => none
   | .mk ord => match box (vs ++ caps.map .d) with | .no => none | .mk as' => aL E call h f as' fun a h' => match box (L5 E f h h' ord) with | .mk (some (h'',c)) => q a h'' c | _ => none
  | .mk (.clo f []) => kvs s args fun vs => match box (aF aG h (idsL vs) []) with
   | .no => none
   | .mk ord => aL E call h f vs fun a h' => match box (L5 E f h h' ord) with | .mk (some (h'',c)) => q a h'' c | _ => none
  | _ => aRL E call thaw dst (.call ⟨.value (.tmp t),args.toArray,tys⟩) s h q:=by
 have key:=fun (f:FuncId) (caps:List D) hg => aHt (E:=E) (call:=call) (thaw:=thaw) (dst:=dst) (s:=s) (h:=h) (t:=t) (args:=args) (tys:=tys) (q:=q) (f:=f) (caps:=caps) hg
 have k2:∀ f,s.getD t (.d .undef) = .clo f [] → kOpD E call thaw dst (.call ⟨.value (.tmp t),args.toArray,tys⟩) s h q = kOpD E call thaw dst (.call ⟨.value (.func f),args.toArray,tys⟩) s h q:=by
  intro f hg
  unfold kOpD kvs
  simp only [opds,b6,dG,hg]
  cases b6 s args <;> rfl
 have fold:∀ (f:FuncId) (h h':H) (ord:List Nat) (a:A),(if ((E.hint f).mode == 1 && h'.length - h.length == 0) = true then q a h { ids:=ord,ro:=true } else q a h' { ids:=ord ++ List.range' h.length (h'.length - h.length),ro:=false,wr:=wrC E f ord ++ List.range' h.length (h'.length - h.length) }) = match box (L5 E f h h' ord) with | .mk (some (h'',c)) => q a h'' c | _ => none:=by
  intro f h h' ord a
  unfold L5
  by_cases hc:((E.hint f).mode == 1 && h'.length - h.length == 0) = true
  ·simp only [if_pos hc,box]
  ·simp only [if_neg hc,box]
 generalize hs:s.getD t (.d .undef) = a
 cases a with
 | d x =>
  cases x with
  | fn f caps =>
   rw [key f caps ⟨hs⟩]
   simp only [fold]
   rfl
  | _ => rfl
 | clo f caps =>
  cases caps with
  | nil => rw [k2 f hs]; exact SM
  | cons c caps => rfl
 | _ => rfl
theorem P4 (n:Nat) (h:H):aF n h [] [] = []:=by cases n <;> rfl
mutual
theorem tU {f:Nat → Option Nat}:∀ a:A,idsA a = [] → mapA f a = a
 | .d x,_ => by simp only [mapA]
 | .sl id gen off len,h => by simp [idsA] at h
 | .ptr id gen off,h => by simp [idsA] at h
 | .mp id,h => by simp [idsA] at h
 | .clo g caps,h => by simp only [idsA] at h; simp only [mapA]; rw [mK caps h]
 | .agg cs,h => by simp only [idsA] at h; simp only [mapA]; rw [mK cs h]
 | .tup cs,h => by simp only [idsA] at h; simp only [mapA]; rw [mK cs h]
 | .junk,_ => by simp only [mapA]
theorem mK {f:Nat → Option Nat}:∀ as:List A,idsL as = [] → aH f as = as
 | [],_ => by simp only [aH]
 | a :: as,h => by
  simp only [idsL,List.append_eq_nil_iff] at h
  simp only [aH]
  rw [tU a h.1,mK as h.2]
end
theorem aJ9 {a:A} (h:DI a = true):idsA a = []:=by
 cases a with
 | d x => rfl
 | agg cs =>
  simp only [DI] at h
  simp only [idsA]
  induction cs with
  | nil => rfl
  | cons c cs ih =>
   simp only [List.all_cons,Bool.and_eq_true] at h
   simp only [idsL,ih h.2,List.append_nil]
   cases c <;> first | rfl | simp [isD] at h
 | _ => simp [DI] at h
theorem GM:∀ {as:List A},as.all DI = true → idsL as = []
 | [],_ => rfl
 | a :: as,h => by
  simp only [List.all_cons,Bool.and_eq_true] at h
  simp only [idsL,aJ9 h.1,GM h.2,List.append_nil]
theorem aAu {h:H}:∀ {cs:List A},cs.all isD = true → ∃ ds,frzL h cs = some (ds,h) ∧ ds.map .d = cs
 | [],_ => ⟨[],rfl,rfl⟩
 | c :: cs,hs => by
  simp only [List.all_cons,Bool.and_eq_true] at hs
  obtain ⟨ds,h1,h2⟩:=aAu (h:=h) hs.2
  cases c with
  | d x =>
   refine ⟨x :: ds,?_,by simp [h2]⟩
   unfold frzL at h1 ⊢
   simp only [hZ]
   have:frz deep h (.d x) = some (x,h):=rfl
   rw [this]
   simp only [h1]
  | _ => simp [isD] at hs
theorem DE {h:H}:∀ {as:List A},as.all DI = true → jO h as = some (as,h)
 | [],_ => rfl
 | a :: as,hs => by
  simp only [List.all_cons,Bool.and_eq_true] at hs
  have ha:frzA h a = some (a,h):=by
   cases a with
   | d x => rfl
   | agg cs =>
    obtain ⟨ds,h1,h2⟩:=aAu (h:=h) (cs:=cs) (by simpa only [DI] using hs.1)
    simp only [frzA,h1,h2]
   | _ => simp [DI] at hs
  simp only [jO,ha,DE hs.2]
theorem aHn {r:A} (h:lO r = true):rM r = true ∧ mapA (fun k => back [] 0 0 k) r = r:=by
 cases r with
 | d x => cases x <;> first | exact ⟨rfl,rfl⟩ | simp [lO] at h
 | tup vs =>
  simp only [lO] at h
  have key:nY vs = true ∧ aH (fun k => back [] 0 0 k) vs = vs:=by
   induction vs with
   | nil => exact ⟨rfl,by simp only [aH]⟩
   | cons v vs ih =>
    simp only [List.all_cons,Bool.and_eq_true] at h
    obtain ⟨i1,i2⟩:=ih h.2
    cases v with
    | d x => cases x <;> first | (exfalso; simp at h; done) | (refine ⟨by simp only [nY,rM,AG,i1,Bool.and_self],by simp only [aH,mapA,i2]⟩)
    | _ => simp at h
  exact ⟨by simp only [rM]; exact key.1,by simp only [mapA,key.2]⟩
 | _ => simp [lO] at h
theorem aHK {f:FuncId} {args:List A} {r:A} (hs:args.all DI = true) (hc:call f args [] = some (r,[])) (hp:lO r = true ∨ ((E.hint f).mode == 1 || (E.hint f).mode == 3) = false):dO call E.hint [] f args = some (r,[]):=by
 unfold dO
 split
 ·exact hc
 ·rename_i hm
  rw [DE hs]
  simp only [hc]
  rcases hp with hp | hp
  ·rw [hp]; rfl
  ·rw [hm] at hp; cases hp
 ·rename_i hm
  rw [DE hs]
  simp only [hc]
  rcases hp with hp | hp
  ·obtain ⟨h1,h2⟩:=aHn hp
   rw [h1]
   simp only [List.all_nil,Bool.and_self,if_true,List.length_nil,List.map_nil,List.append_nil]
   exact congrArg (fun x => some (x,([]:H))) h2
  ·rw [hm] at hp; cases hp
 ·rw [DE hs]
  simp only [hc]
theorem aV {f:FuncId} {args:List A} {r:A} (hs:args.all DI = true) (hc:call f args [] = some (r,[])) (hr:idsA r = []) (hp:lO r = true ∨ ((E.hint f).mode == 1 || (E.hint f).mode == 3) = false):aL E call h f args k = k r h:=by
 unfold aL
 rw [GM hs,P4,mK _ (GM hs)]
 have:pack h [] = []:=rfl
 rw [this,aHK hs hc hp]
 simp only [List.length_nil,Nat.le_refl,true_and,closed,List.all_nil,Bool.and_self,if_true,tU r hr,bG,List.map_nil,List.append_nil]
def aW (call:a7) (f:FuncId) (args:List A) (k:A → Option R):Option R :=
 match call f args [] with
 | some (r,[]) => if lO r = true then k r else none
 | _ => none
theorem kO {f:FuncId} {args:List A} {r:A} {k:A → Option R} (hc:call f args [] = some (r,[])) (hp:lO r = true):aW call f args k = k r:=by
 unfold aW
 rw [hc]
 simp only [hp,if_true]
theorem aMf {r:A} (h:lO r = true):idsA r = []:=by
 cases r with
 | d x => rfl
 | tup vs =>
  simp only [lO] at h
  simp only [idsA]
  induction vs with
  | nil => rfl
  | cons v vs ih =>
   simp only [List.all_cons,Bool.and_eq_true] at h
   simp only [idsL,ih h.2,List.append_nil]
   cases v with
   | d x => rfl
   | _ => simp at h
 | _ => simp [lO] at h
theorem aDG (ord:List Nat) (n:Nat):back ord n ord.length = fun k => ord[k]?:=by
 funext k
 unfold back
 split
 ·rfl
 ·rename_i h
  rw [List.getElem?_eq_none (by omega)]
theorem aGj {h:H} {ord ids:List Nat} (hc:closed h ord ids = true) (hn:ord.Nodup) (hl:∀ i ∈ ord,i < h.length):bG (fun (k:Nat) => ord[k]?) h ord (pack h ord) = h:=by
 apply List.ext_getElem?
 intro id
 rw [DD _ ord h _ id hn hl (by simp [pack])]
 cases hp:aK ord id with
 | none =>
  simp only []
  split
  ·rfl
  ·rename_i hge
   rw [List.getElem?_eq_none (by simp [pack]),List.getElem?_eq_none (by omega)]
   rfl
 | some k =>
  simp only []
  have hm:=L8 hp
  obtain ⟨o,ho⟩:∃ o,h[id]? = some o:=⟨h[id]'(hl id hm),List.getElem?_eq_getElem _⟩
  rw [kZ (bE hp) ho,ho,Option.map_some,U5 hc hm ho]
theorem aHS {f:FuncId} {args:List A} (hm:(E.hint f).mode = 1):aL E call h f args k = match box (aF aG h (idsL args) []) with
  | .no => none
  | .mk ord => match box (jO (pack h ord) (aH (aK ord) args)) with
   | .mk (some (fs,_)) => if closed h ord (idsL args) = true then aW call f fs fun r => k r h else none
   | _ => none:=by
 unfold aL dO
 rw [hm]
 simp only [box]
 cases hf:jO (pack h (aF aG h (idsL args) [])) (aH (aK (aF aG h (idsL args) [])) args) with
 | none => rfl
 | some r =>
  obtain ⟨fs,h1⟩:=r
  simp only [aW]
  cases hc:call f fs [] with
  | none => simp
  | some r =>
   obtain ⟨a,h2⟩:=r
   cases h2 with
   | cons o h2 => simp
   | nil =>
    simp only []
    by_cases hp:lO a = true
    ·simp only [hp,if_true]
     have hlen:(pack h (aF aG h (idsL args) [])).length = (aF aG h (idsL args) []).length:=by simp [pack]
     simp only [hlen,Nat.le_refl,true_and]
     by_cases hcl:closed h (aF aG h (idsL args) []) (idsL args) = true
     ·simp only [hcl,if_true,aDG,tU a (aMf hp)]
      rw [aGj hcl (cW aG h (idsL args) [] (by simp)) (nE aG h (idsL args) [] (by simp))]
     ·simp only [hcl,Bool.false_eq_true,if_false]
    ·simp only [hp,Bool.false_eq_true,if_false]
     simp
def a5 (h:H) (args:List A):Option (List A):=match box (aF aG h (idsL args) []) with
 | .no => none
 | .mk ord => match box (jO (pack h ord) (aH (aK ord) args)) with
  | .mk (some (fs,_)) => if closed h ord (idsL args) = true then some fs else none
  | _ => none
theorem aM {f:FuncId} {args:List A} (hm:(E.hint f).mode = 1):aL E call h f args k = match box (a5 h args) with
  | .mk (some fs) => aW call f fs fun r => k r h
  | _ => none:=by
 rw [aHS hm]
 unfold a5
 simp only [box]
 cases jO (pack h (aF aG h (idsL args) [])) (aH (aK (aF aG h (idsL args) [])) args) with
 | none => rfl
 | some r =>
  obtain ⟨fs,h1⟩:=r
  simp only []
  by_cases hc:closed h (aF aG h (idsL args) []) (idsL args) = true
  ·simp only [if_pos hc]
  ·simp only [if_neg hc]
theorem aIp {nf:Nat} {h:H} {ord:List Nat} {s:List A}:trim nf h ord s = match box (pack h ord) with
  | .mk p => (aR nf p (aH (aK ord) s),dU nf p)
  | .no => ([],[]):=rfl
theorem aPC {nf:Nat} {m:List Bool} {s:List A} {h:H}:gc nf m s h = match box (tidy m s) with
  | .mk s1 => match box (fI nf h (idsL s1)) with
   | .mk ord => trim nf h ord s1
   | .no => ([],[])
  | .no => ([],[]):=rfl
theorem aH8 {P:Program} {nf:Nat} {exp:Bool} {rs:List ResultVar} {e:Exit} {s:List A} {h:H}:kFin P nf exp rs e s h =
  if iX e then (match oA P s h rs with
   | some rs => match rK nf exp h rs with
    | some (xs,h2) => match box (fI nf h2 (idsL xs)) with
     | .mk ord => match box (trim nf h2 ord xs) with
      | .mk r => some (tupA r.1,r.2)
      | .no => none
     | .no => none
    | none => none
   | none => none) else none:=rfl
theorem uD (nf:Nat) (h:H) (ids:List Nat):fI nf h ids = aF 1099511627776 h (gE (h.take nf) ++ ids) (List.range nf):=rfl
theorem rng0:List.range 0 = []:=rfl
theorem rng1:List.range 1 = [0]:=rfl
theorem rng2:List.range 2 = [0,1]:=rfl
theorem rng3:List.range 3 = [0,1,2]:=rfl
theorem y9 (h:H) (ids:List Nat):fI 0 h ids = aF 1099511627776 h ids []:=by
 unfold fI
 simp only [List.take_zero,gE,List.nil_append,List.range_zero]
 rfl
theorem xR (n:Nat) (h:H) (acc:List Nat):aF n h [] acc = acc:=by cases n <;> rfl
theorem qY (n:Nat) (h:H) (i:Nat) (todo acc:List Nat):aF (n + 1) h (i :: todo) acc = if acc.contains i = true then aF n h todo acc
  else match h.getD i .void with
   | .box cs => aF n h (todo ++ idsL cs) (acc ++ [i])
   | .vec cs _ _ => aF n h (todo ++ idsL cs) (acc ++ [i])
   | .void => aF n h todo acc
   | _ => aF n h todo (acc ++ [i]):=by
 simp only [aF,List.getD_eq_getElem?_getD]
 split
 ·rfl
 ·cases h[i]? with
  | none => rfl
  | some o => cases o <;> rfl
theorem aFv {α:Type} {c:Prop} [Decidable c] {a:α} (hc:c):(if c then some a else none) = some a:=if_pos hc
def iAnd (k:IntKind) (a b:Int):Int:=k.wrap (BitVec.ofInt k.bits a &&& BitVec.ofInt k.bits b).toNat
def iOr (k:IntKind) (a b:Int):Int:=k.wrap (BitVec.ofInt k.bits a ||| BitVec.ofInt k.bits b).toNat
def iXor (k:IntKind) (a b:Int):Int:=k.wrap (BitVec.ofInt k.bits a ^^^ BitVec.ofInt k.bits b).toNat
def aQd (k:IntKind) (a b:Int):Int:=k.wrap (BitVec.ofInt k.bits a &&& ~~~BitVec.ofInt k.bits b).toNat
section
variable {t:TypeId} {K:IntKind} {a b:Int}
theorem aDr:dI E .add t h (.d (.int K a)) (.d (.int K b)) = some (.d (.int K (K.wrap (a + b))),h):=by simp [dI,aBin]; rfl
theorem aEK:dI E .sub t h (.d (.int K a)) (.d (.int K b)) = some (.d (.int K (K.wrap (a - b))),h):=by simp [dI,aBin]; rfl
theorem aEI:dI E .mul t h (.d (.int K a)) (.d (.int K b)) = some (.d (.int K (K.wrap (a * b))),h):=by simp [dI,aBin]; rfl
theorem aDc:dI E .and t h (.d (.int K a)) (.d (.int K b)) = some (.d (.int K (iAnd K a b)),h):=by simp [dI,aBin]; rfl
theorem aFK:dI E .or t h (.d (.int K a)) (.d (.int K b)) = some (.d (.int K (iOr K a b)),h):=by simp [dI,aBin]; rfl
theorem aDB:dI E .xor t h (.d (.int K a)) (.d (.int K b)) = some (.d (.int K (iXor K a b)),h):=by simp [dI,aBin]; rfl
theorem UG:dI E .andNot t h (.d (.int K a)) (.d (.int K b)) = some (.d (.int K (aQd K a b)),h):=by simp [dI,aBin]; rfl
theorem aDO:dI E .lss t h (.d (.int K a)) (.d (.int K b)) = some (.d (.bool (decide (a < b))),h):=by simp [dI,aBin]
theorem aEx:dI E .leq t h (.d (.int K a)) (.d (.int K b)) = some (.d (.bool (decide (a ≤ b))),h):=by simp [dI,aBin]
theorem aDu:dI E .gtr t h (.d (.int K a)) (.d (.int K b)) = some (.d (.bool (decide (b < a))),h):=by simp [dI,aBin]
theorem aDm:dI E .geq t h (.d (.int K a)) (.d (.int K b)) = some (.d (.bool (decide (b ≤ a))),h):=by simp [dI,aBin]
theorem aEd:dI E .eql t h (.d (.int K a)) (.d (.int K b)) = some (.d (.bool (decide (a = b))),h):=by simp [dI,aBin]; rfl
theorem aDI:dI E .neq t h (.d (.int K a)) (.d (.int K b)) = some (.d (.bool (!decide (a = b))),h):=by simp [dI,aBin]; rfl
theorem aDd (hb:b ≠ 0):dI E .quo t h (.d (.int K a)) (.d (.int K b)) = some (.d (.int K (K.wrap (a.tdiv b))),h):=by simp [dI,aBin,hb]
theorem aEE (hb:b ≠ 0):dI E .rem t h (.d (.int K a)) (.d (.int K b)) = some (.d (.int K (a.tmod b)),h):=by simp [dI,aBin,hb]
theorem aC2 {K2:IntKind} (hb:0 ≤ b):dI E .shl t h (.d (.int K a)) (.d (.int K2 b)) = some (.d (.int K (K.wrap (a * 2 ^ (min b.toNat K.bits)))),h):=by
 have:¬ b < 0:=by omega
 simp [dI,aBin,Op.shift,this]; rfl
theorem aEe {K2:IntKind} (hb:0 ≤ b):dI E .shr t h (.d (.int K a)) (.d (.int K2 b)) = some (.d (.int K (a.fdiv (2 ^ (min b.toNat K.bits)))),h):=by
 have:¬ b < 0:=by omega
 simp [dI,aBin,Op.shift,this]; rfl
theorem aIg {b:Bool}:aUn .not (.d (.bool b)) = some (.d (.bool (!b))):=rfl
end
end
theorem WD:type_of% (AI @aBp (AI @aDY (AI @XF (AI @aD3 (AI @aAB (AI @W5 (AI @aAN (AI @aA4 (AI @aD8 (AI @aG3 (AI @aDT (AI @aCZ (AI @aBL (AI @X0 (AI @WJ (AI @aJZ (AI @aMm (AI @aIm (AI @aKa (AI @aIH (AI @aH2 (AI @aID (AI @aMp (AI @aIh (AI @aFN (AI @aFJ (AI @N6 (AI @JW (AI @MG (AI @aIl (AI @aM1 (AI @aGg (AI @TQ (AI @aGq (AI @aGB (AI @aC8 (AI @aEH (AI @aIy (AI @aEo (AI @NA (AI @SP (AI @QX (AI @XA (AI @X9 (AI @WQ (AI @X5 (AI @RU (AI @aDy (AI @QL (AI @aDx (AI @XR (AI @WV (AI @aDn (AI @aH8 (AI @S5 (AI @aBM (AI @aED (AI @X1 (AI @aBi @Q6))))))))))))))))))))))))))))))))))))))))))))))))))))))))))) :=
 ⟨@aBp,@aDY,@XF,@aD3,@aAB,@W5,@aAN,@aA4,@aD8,@aG3,@aDT,@aCZ,@aBL,@X0,@WJ,@aJZ,@aMm,@aIm,@aKa,@aIH,@aH2,@aID,@aMp,@aIh,@aFN,@aFJ,@N6,@JW,@MG,@aIl,@aM1,@aGg,@TQ,@aGq,@aGB,@aC8,@aEH,@aIy,@aEo,@NA,@SP,@QX,@XA,@X9,@WQ,@X5,@RU,@aDy,@QL,@aDx,@XR,@WV,@aDn,@aH8,@S5,@aBM,@aED,@X1,@aBi,@Q6⟩
theorem WDD:type_of% (AI @aEz (AI @aAp (AI @XK (AI @aAD (AI @aFP (AI @LQ (AI @aEA (AI @NL (AI @aAU (AI @OA (AI @XE (AI @aFr (AI @aEF (AI @aDk (AI @RI (AI @aF7 (AI @aIf (AI @RP (AI @N4 (AI @aBg (AI @aAE (AI @SH (AI @aBY (AI @SM (AI @aDJ (AI @aCY (AI @aAx (AI @aAe (AI @XJ (AI @SI @N0)))))))))))))))))))))))))))))) :=
 ⟨@aEz,@aAp,@XK,@aAD,@aFP,@LQ,@aEA,@NL,@aAU,@OA,@XE,@aFr,@aEF,@aDk,@RI,@aF7,@aIf,@RP,@N4,@aBg,@aAE,@SH,@aBY,@SM,@aDJ,@aCY,@aAx,@aAe,@XJ,@SI,@N0⟩
theorem WK0:type_of% (AI @aMS (AI @aIg (AI @aDr (AI @aEK (AI @aEI (AI @aDc (AI @aFK (AI @aDB (AI @UG (AI @aDd (AI @aEE (AI @aC2 (AI @aEe (AI @aDO (AI @aEx (AI @aDu (AI @aDm (AI @aEd (AI @aDI (AI @ne_eq.{0} (AI @not_true_eq_false (AI @if_false.{0} (AI @if_true.{0} (AI @List.getD_nil.{0} (AI @List.getD_cons_zero.{0} (AI @List.getD_cons_succ.{0} (AI @List.set_cons_zero.{0} (AI @List.set_cons_succ.{0} (AI @aPC @aIp))))))))))))))))))))))))))))) :=
 ⟨@aMS,@aIg,@aDr,@aEK,@aEI,@aDc,@aFK,@aDB,@UG,@aDd,@aEE,@aC2,@aEe,@aDO,@aEx,@aDu,@aDm,@aEd,@aDI,@ne_eq.{0},@not_true_eq_false,@if_false.{0},@if_true.{0},@List.getD_nil.{0},@List.getD_cons_zero.{0},@List.getD_cons_succ.{0},@List.set_cons_zero.{0},@List.set_cons_succ.{0},@aPC,@aIp⟩
theorem WK1:type_of% (AI @Bool.not_true (AI @Bool.not_false (AI @Bool.true_eq_false (AI @Bool.false_eq_true (AI @decide_eq_true_eq (AI @decide_eq_false_iff_not (AI @Option.map_some.{0,0} (AI @Option.bind_some.{0,0} (AI @List.append_nil.{0} (AI @List.nil_append.{0} (AI @List.map_nil.{0,0} (AI @decide_true (AI @decide_false (AI @Bool.not_eq_false' (AI @Bool.not_eq_true' (AI @aFv (AI @Nat.mul_one (AI @Nat.one_mul (AI @Nat.zero_add (AI @Nat.add_zero (AI @List.getElem?_cons_zero.{0} (AI @List.getElem?_cons_succ.{0} (AI @List.length_cons.{0} (AI @List.length_nil.{0} (AI @List.drop_zero.{0} (AI @List.all_cons.{0} (AI @List.all_nil.{0} (AI @Bool.and_self (AI @Bool.and_true @Bool.true_and))))))))))))))))))))))))))))) :=
 ⟨@Bool.not_true,@Bool.not_false,@Bool.true_eq_false,@Bool.false_eq_true,@decide_eq_true_eq,@decide_eq_false_iff_not,@Option.map_some.{0,0},@Option.bind_some.{0,0},@List.append_nil.{0},@List.nil_append.{0},@List.map_nil.{0,0},@decide_true,@decide_false,@Bool.not_eq_false',@Bool.not_eq_true',@aFv,@Nat.mul_one,@Nat.one_mul,@Nat.zero_add,@Nat.add_zero,@List.getElem?_cons_zero.{0},@List.getElem?_cons_succ.{0},@List.length_cons.{0},@List.length_nil.{0},@List.drop_zero.{0},@List.all_cons.{0},@List.all_nil.{0},@Bool.and_self,@Bool.and_true,@Bool.true_and⟩
theorem WK2:type_of% (AI @Bool.false_and (AI @Bool.and_false (AI @List.map_cons.{0,0} (AI @List.zip_cons_cons.{0,0} (AI @List.zip_nil_left.{0,0} (AI @List.flatten_cons.{0} (AI @List.flatten_nil.{0} (AI @List.take_zero.{0} (AI @List.take_nil.{0} (AI @List.drop_nil.{0} (AI @List.cons_append.{0} (AI @Bool.or_self (AI @Bool.or_false (AI @Bool.false_or (AI @Nat.not_lt_zero (AI @and_self (AI @and_true (AI @true_and (AI @Bool.or_true (AI @Bool.true_or (AI @Option.map_none.{0,0} (AI @List.drop_succ_cons.{0} (AI @List.take_succ_cons.{0} (AI @Nat.lt_irrefl (AI @List.head?_cons.{0} (AI @Option.any_some.{0} (AI @List.contains_cons.{0} (AI @List.contains_nil.{0} (AI @y9 @uD))))))))))))))))))))))))))))) :=
 ⟨@Bool.false_and,@Bool.and_false,@List.map_cons.{0,0},@List.zip_cons_cons.{0,0},@List.zip_nil_left.{0,0},@List.flatten_cons.{0},@List.flatten_nil.{0},@List.take_zero.{0},@List.take_nil.{0},@List.drop_nil.{0},@List.cons_append.{0},@Bool.or_self,@Bool.or_false,@Bool.false_or,@Nat.not_lt_zero,@and_self,@and_true,@true_and,@Bool.or_true,@Bool.true_or,@Option.map_none.{0,0},@List.drop_succ_cons.{0},@List.take_succ_cons.{0},@Nat.lt_irrefl,@List.head?_cons.{0},@Option.any_some.{0},@List.contains_cons.{0},@List.contains_nil.{0},@y9,@uD⟩
theorem WK3:type_of% (AI @rng0 (AI @rng1 (AI @rng2 (AI @rng3 (AI @Option.getD_none.{0} (AI @Option.isNone_none.{0} (AI @Option.isNone_some.{0} (AI @Option.isSome_none.{0} (AI @Option.isSome_some.{0} (AI @xR (AI @qY (AI @beq_self_eq_true.{0} (AI @Nat.succ_ne_self (AI @Nat.zero_ne_one (AI @Nat.one_ne_zero (AI @List.length_append.{0} (AI @false_or (AI @or_false (AI @or_true (AI @true_or (AI @List.take_length.{0} (AI @Option.toList_none.{0} @Option.toList_some.{0})))))))))))))))))))))) :=
 ⟨@rng0,@rng1,@rng2,@rng3,@Option.getD_none.{0},@Option.isNone_none.{0},@Option.isNone_some.{0},@Option.isSome_none.{0},@Option.isSome_some.{0},@xR,@qY,@beq_self_eq_true.{0},@Nat.succ_ne_self,@Nat.zero_ne_one,@Nat.one_ne_zero,@List.length_append.{0},@false_or,@or_false,@or_true,@true_or,@List.take_length.{0},@Option.toList_none.{0},@Option.toList_some.{0}⟩
theorem WK:type_of% (AI @WK0 (AI @WK1 (AI @WK2 @WK3))) :=
 ⟨@WK0,@WK1,@WK2,@WK3⟩
section
variable {E:Env} {vs:List A} {t u:TypeId} {x y:Operand}
theorem W7:fN E (.load t x) vs = true:=rfl
theorem UB {a b c:Option Operand}:fN E (.slice t x a b c) vs = true:=rfl
theorem aC3:fN E (.indexAddr t x y) vs = true:=rfl
theorem WL:fN E (.convert t u x) vs = (bB E.P u).isNone:=rfl
theorem RJ {a:Array Operand} {b:Array TypeId}:fN E (.call ⟨.builtin .append,a,b⟩) vs = false:=rfl
theorem aBf {a:Array Operand} {b:Array TypeId}:fN E (.call ⟨.builtin .len,a,b⟩) vs = true:=rfl
theorem aAQ {a:Array Operand} {b:Array TypeId} {f:FuncId} {c:List A}:fN E (.call ⟨.value x,a,b⟩) (.clo f c :: vs) = ((E.hint f).mode == 1):=rfl
theorem aEg {a:Array Operand} {b:Array TypeId} {f:FuncId} {c:List D}:fN E (.call ⟨.value x,a,b⟩) (.d (.fn f c) :: vs) = ((E.hint f).mode == 1):=rfl
theorem aAL:fN E (.box t x) vs = false:=rfl
theorem TJ:fN E (.alloc t) vs = false:=rfl
theorem Q4:fN E (.assign x) vs = false:=rfl
theorem TN:fN E (.store t x y) vs = false:=rfl
theorem aC0 {n:Nat} {ps:Array (Nat × Operand)}:fN E (.buildSlice t n ps) vs = false:=rfl
theorem aC1:fN E (.makeSlice t x y) vs = false:=rfl
theorem aEi:fN E (.makeMap t none) vs = false:=rfl
theorem aDF {z:Operand}:fN E (.mapUpdate t x y z) vs = false:=rfl
theorem aIt {b:Bool}:cN (.lookup t x y b) = false:=rfl
theorem aIe:cN (.makeMap t none) = false:=rfl
theorem aII {z:Operand}:cN (.mapUpdate t x y z) = false:=rfl
theorem aAb:opds (.alloc t) = []:=rfl
theorem aEq:cN (.load t x) = false:=rfl
theorem aBG:cN (.store t x y) = false:=rfl
theorem X2:cN (.assign x) = false:=rfl
theorem aBd:cN (.alloc t) = false:=rfl
theorem aFj:cN (.box t x) = false:=rfl
theorem aId {n:Nat} {ps:Array (Nat × Operand)}:cN (.buildSlice t n ps) = false:=rfl
theorem aDi:cN (.convert t u x) = false:=rfl
theorem aIx:cN (.makeSlice t x y) = false:=rfl
theorem aAw {a b c:Option Operand}:cN (.slice t x a b c) = false:=rfl
theorem aIG:cN (.indexAddr t x y) = false:=rfl
theorem aDg {c:Call}:cN (.call c) = false:=rfl
end
theorem UNx1:type_of% (fun v0 => @iX.eq_3 (Go.Exit.exit v0) (by nofun) (by nofun)):=by intros; rfl
theorem UNx2:type_of% (fun v0 => @iX.eq_3 (Go.Exit.goto v0) (by nofun) (by nofun)):=by intros; rfl
theorem UNx3:type_of% (fun v0 => @iX.eq_3 (Go.Exit.panic v0) (by nofun) (by nofun)):=by intros; rfl
theorem UNx4:type_of% (@iX.eq_3 Go.Exit.outgrown (by nofun) (by nofun)):=(@iX.eq_3 Go.Exit.outgrown (by nofun) (by nofun))
theorem UNx5:type_of% (fun v0 v1 v2 v3 => @outA.eq_2 v0 v1 v2 (A.d v3) (by nofun)):=by intros; rfl
theorem UNx6:type_of% (fun v0 v1 v2 v3 v4 v5 v6 => @outA.eq_2 v0 v1 v2 (A.sl v3 v4 v5 v6) (by nofun)):=by intros; rfl
theorem UNx7:type_of% (fun v0 v1 v2 v3 v4 v5 => @outA.eq_2 v0 v1 v2 (A.ptr v3 v4 v5) (by nofun)):=by intros; rfl
theorem UNx8:type_of% (fun v0 v1 v2 v3 => @outA.eq_2 v0 v1 v2 (A.mp v3) (by nofun)):=by intros; rfl
theorem UNx9:type_of% (fun v0 v1 v2 v3 v4 => @outA.eq_2 v0 v1 v2 (A.clo v3 v4) (by nofun)):=by intros; rfl
theorem aPh:type_of% (fun v0 v1 v2 v3 => @outA.eq_2 v0 v1 v2 (A.tup v3) (by nofun)):=by intros; rfl
theorem aOG:type_of% (fun v0 v1 v2 => @outA.eq_2 v0 v1 v2 A.junk (by nofun)):=by intros; rfl
theorem aPI:type_of% (fun v0 v1 v2 => @outS.eq_2 v0 v1 v2 D.undef (by nofun)):=by intros; rfl
theorem aPE:type_of% (fun v0 v1 v2 v3 v4 => @outS.eq_2 v0 v1 v2 (D.int v3 v4) (by nofun)):=by intros; rfl
theorem aOL:type_of% (fun v0 v1 v2 v3 => @outS.eq_2 v0 v1 v2 (D.bool v3) (by nofun)):=by intros; rfl
theorem aP8:type_of% (fun v0 v1 v2 v3 => @outS.eq_2 v0 v1 v2 (D.str v3) (by nofun)):=by intros; rfl
theorem aPM:type_of% (fun v0 v1 v2 v3 v4 => @outS.eq_2 v0 v1 v2 (D.ivs v3 v4) (by nofun)):=by intros; rfl
theorem aP3:type_of% (fun v0 v1 v2 v3 => @outS.eq_2 v0 v1 v2 (D.iptr v3) (by nofun)):=by intros; rfl
theorem aO1:type_of% (fun v0 v1 v2 => @outS.eq_2 v0 v1 v2 D.nilp (by nofun)):=by intros; rfl
theorem aOI:type_of% (fun v0 v1 v2 v3 v4 => @outS.eq_2 v0 v1 v2 (D.fn v3 v4) (by nofun)):=by intros; rfl
theorem aOK:type_of% (fun v0 v1 v2 => @outS.eq_2 v0 v1 v2 D.nilfn (by nofun)):=by intros; rfl
theorem aPn:type_of% (fun v0 v1 v2 => @outS.eq_2 v0 v1 v2 D.nili (by nofun)):=by intros; rfl
theorem aOQ:type_of% (fun v0 v1 v2 => @outS.eq_2 v0 v1 v2 D.nilm (by nofun)):=by intros; rfl
theorem aPe:type_of% (fun v0 v1 v2 v3 v4 => @outS.eq_2 v0 v1 v2 (D.ifc v3 v4) (by nofun)):=by intros; rfl
theorem aPz:type_of% (fun v0 v1 v2 v3 v4 => @outS.eq_6 v0 v1 v2 (A.clo v3 v4) (by nofun) (by nofun) (by nofun) (by nofun) (by nofun)):=by intros; rfl
theorem aPZ:type_of% (fun v0 v1 v2 v3 => @outS.eq_6 v0 v1 v2 (A.agg v3) (by nofun) (by nofun) (by nofun) (by nofun) (by nofun)):=by intros; rfl
theorem aO7:type_of% (fun v0 v1 v2 v3 => @outS.eq_6 v0 v1 v2 (A.tup v3) (by nofun) (by nofun) (by nofun) (by nofun) (by nofun)):=by intros; rfl
theorem aOx:type_of% (fun v0 v1 v2 => @outS.eq_6 v0 v1 v2 A.junk (by nofun) (by nofun) (by nofun) (by nofun) (by nofun)):=by intros; rfl
theorem aPu:type_of% (fun v0 v1 => @pO.eq_4 (List.cons v0 v1) (by nofun)):=(fun v0 v1 => @pO.eq_4 (List.cons v0 v1) (by nofun))
theorem aP0:type_of% (fun v0 v1 => @eC.eq_3 (A.d (D.int v0 v1)) (by nofun) (by nofun)):=by intros; rfl
theorem aOM:type_of% (fun v0 => @eC.eq_3 (A.d (D.bool v0)) (by nofun) (by nofun)):=by intros; rfl
theorem aOO:type_of% (fun v0 => @eC.eq_3 (A.d (D.str v0)) (by nofun) (by nofun)):=by intros; rfl
theorem aPa:type_of% (fun v0 v1 => @eC.eq_3 (A.d (D.ivs v0 v1)) (by nofun) (by nofun)):=by intros; rfl
theorem aQb:type_of% (@eC.eq_3 (A.d D.nils) (by nofun) (by nofun)):=(@eC.eq_3 (A.d D.nils) (by nofun) (by nofun))
theorem aPd:type_of% (fun v0 => @eC.eq_3 (A.d (D.iptr v0)) (by nofun) (by nofun)):=by intros; rfl
theorem aPT:type_of% (@eC.eq_3 (A.d D.nilp) (by nofun) (by nofun)):=(@eC.eq_3 (A.d D.nilp) (by nofun) (by nofun))
theorem aOB:type_of% (fun v0 v1 => @eC.eq_3 (A.d (D.fn v0 v1)) (by nofun) (by nofun)):=by intros; rfl
theorem aOS:type_of% (@eC.eq_3 (A.d D.nilfn) (by nofun) (by nofun)):=(@eC.eq_3 (A.d D.nilfn) (by nofun) (by nofun))
theorem aP9:type_of% (@eC.eq_3 (A.d D.nili) (by nofun) (by nofun)):=(@eC.eq_3 (A.d D.nili) (by nofun) (by nofun))
theorem aO6:type_of% (@eC.eq_3 (A.d D.nilm) (by nofun) (by nofun)):=(@eC.eq_3 (A.d D.nilm) (by nofun) (by nofun))
theorem aO0:type_of% (fun v0 v1 => @eC.eq_3 (A.d (D.ifc v0 v1)) (by nofun) (by nofun)):=by intros; rfl
theorem aO8:type_of% (fun v0 v1 v2 v3 => @eC.eq_3 (A.sl v0 v1 v2 v3) (by nofun) (by nofun)):=by intros; rfl
theorem aPX:type_of% (fun v0 v1 v2 => @eC.eq_3 (A.ptr v0 v1 v2) (by nofun) (by nofun)):=by intros; rfl
theorem aPw:type_of% (fun v0 => @eC.eq_3 (A.mp v0) (by nofun) (by nofun)):=by intros; rfl
theorem aOF:type_of% (fun v0 v1 => @eC.eq_3 (A.clo v0 v1) (by nofun) (by nofun)):=by intros; rfl
theorem aPq:type_of% (fun v0 => @eC.eq_3 (A.agg v0) (by nofun) (by nofun)):=by intros; rfl
theorem aP2:type_of% (fun v0 => @eC.eq_3 (A.tup v0) (by nofun) (by nofun)):=by intros; rfl
theorem aPv:type_of% (fun v0 => @tidy.eq_3 List.nil v0 (by nofun) (by nofun)):=by intros; rfl
theorem aPg:type_of% (fun v0 => @tidy.eq_3 (List.cons Bool.false v0) List.nil (by nofun) (by nofun)):=by intros; rfl
theorem aPB:type_of% (fun v0 => @tidy.eq_3 (List.cons Bool.true v0) List.nil (by nofun) (by nofun)):=by intros; rfl
theorem aOJ:type_of% (fun v0 v1 v2 v3 v4 => @c4.eq_2 v0 v1 v2 v3 (A.d v4) (by nofun)):=by intros; rfl
theorem aPp:type_of% (fun v0 v1 v2 v3 v4 v5 v6 v7 => @c4.eq_2 v0 v1 v2 v3 (A.sl v4 v5 v6 v7) (by nofun)):=by intros; rfl
theorem aO3:type_of% (fun v0 v1 v2 v3 v4 v5 v6 => @c4.eq_2 v0 v1 v2 v3 (A.ptr v4 v5 v6) (by nofun)):=by intros; rfl
theorem aOC:type_of% (fun v0 v1 v2 v3 v4 v5 => @c4.eq_2 v0 v1 v2 v3 (A.clo v4 v5) (by nofun)):=by intros; rfl
theorem aPU:type_of% (fun v0 v1 v2 v3 v4 => @c4.eq_2 v0 v1 v2 v3 (A.agg v4) (by nofun)):=by intros; rfl
theorem aOE:type_of% (fun v0 v1 v2 v3 v4 => @c4.eq_2 v0 v1 v2 v3 (A.tup v4) (by nofun)):=by intros; rfl
theorem aPQ:type_of% (fun v0 v1 v2 v3 => @c4.eq_2 v0 v1 v2 v3 A.junk (by nofun)):=by intros; rfl
theorem aPP:type_of% (fun v0 v1 v2 v3 v4 => @jZ.eq_2 v0 v1 v2 (A.d v4) v3 (by nofun)):=by intros; rfl
theorem aP5:type_of% (fun v0 v1 v2 v3 v4 v5 v6 => @jZ.eq_2 v0 v1 v2 (A.ptr v4 v5 v6) v3 (by nofun)):=by intros; rfl
theorem aOH:type_of% (fun v0 v1 v2 v3 v4 => @jZ.eq_2 v0 v1 v2 (A.mp v4) v3 (by nofun)):=by intros; rfl
theorem aOU:type_of% (fun v0 v1 v2 v3 v4 v5 => @jZ.eq_2 v0 v1 v2 (A.clo v4 v5) v3 (by nofun)):=by intros; rfl
theorem aPN:type_of% (fun v0 v1 v2 v3 v4 => @jZ.eq_2 v0 v1 v2 (A.agg v4) v3 (by nofun)):=by intros; rfl
theorem aOz:type_of% (fun v0 v1 v2 v3 v4 => @jZ.eq_2 v0 v1 v2 (A.tup v4) v3 (by nofun)):=by intros; rfl
theorem aPL:type_of% (fun v0 v1 v2 v3 => @jZ.eq_2 v0 v1 v2 A.junk v3 (by nofun)):=by intros; rfl
theorem aOX:type_of% (fun v0 v1 => @wQ.eq_2 v0 (A.d v1) (by nofun)):=by intros; rfl
theorem aOR:type_of% (fun v0 v1 v2 v3 => @wQ.eq_2 v0 (A.ptr v1 v2 v3) (by nofun)):=by intros; rfl
theorem aQa:type_of% (fun v0 v1 => @wQ.eq_2 v0 (A.mp v1) (by nofun)):=by intros; rfl
theorem aPl:type_of% (fun v0 v1 v2 => @wQ.eq_2 v0 (A.clo v1 v2) (by nofun)):=by intros; rfl
theorem aPi:type_of% (fun v0 v1 => @wQ.eq_2 v0 (A.agg v1) (by nofun)):=by intros; rfl
theorem aPY:type_of% (fun v0 v1 => @wQ.eq_2 v0 (A.tup v1) (by nofun)):=by intros; rfl
theorem aOP:type_of% (fun v0 => @wQ.eq_2 v0 A.junk (by nofun)):=by intros; rfl
theorem aPm:type_of% (fun v0 v1 v2 => @j3.eq_2 v0 v1 (A.d v2) (by nofun)):=by intros; rfl
theorem aPW:type_of% (fun v0 v1 v2 v3 v4 => @j3.eq_2 v0 v1 (A.ptr v2 v3 v4) (by nofun)):=by intros; rfl
theorem aO9:type_of% (fun v0 v1 v2 => @j3.eq_2 v0 v1 (A.mp v2) (by nofun)):=by intros; rfl
theorem aPb:type_of% (fun v0 v1 v2 v3 => @j3.eq_2 v0 v1 (A.clo v2 v3) (by nofun)):=by intros; rfl
theorem aO5:type_of% (fun v0 v1 v2 => @j3.eq_2 v0 v1 (A.agg v2) (by nofun)):=by intros; rfl
theorem aOT:type_of% (fun v0 v1 v2 => @j3.eq_2 v0 v1 (A.tup v2) (by nofun)):=by intros; rfl
theorem aOW:type_of% (fun v0 v1 => @j3.eq_2 v0 v1 A.junk (by nofun)):=by intros; rfl
theorem aO4:type_of% (fun v0 v1 v2 => @frz.eq_5 v0 (A.d v2) v1 (by nofun) (by nofun) (by nofun)):=by intros; rfl
theorem aPy:type_of% (fun v0 v1 v2 => @frz.eq_5 v0 (A.mp v2) v1 (by nofun) (by nofun) (by nofun)):=by intros; rfl
theorem aPS:type_of% (fun v0 v1 v2 => @frz.eq_5 v0 (A.agg v2) v1 (by nofun) (by nofun) (by nofun)):=by intros; rfl
theorem aOA:type_of% (fun v0 v1 v2 => @frz.eq_5 v0 (A.tup v2) v1 (by nofun) (by nofun) (by nofun)):=by intros; rfl
theorem aPk:type_of% (fun v0 v1 => @frz.eq_5 v0 A.junk v1 (by nofun) (by nofun) (by nofun)):=by intros; rfl
theorem aPt:type_of% (fun v0 v1 v2 v3 => @frz0.eq_3 v0 (A.ptr v1 v2 v3) (by nofun) (by nofun)):=by intros; rfl
theorem aPH:type_of% (fun v0 v1 => @frz0.eq_3 v0 (A.mp v1) (by nofun) (by nofun)):=by intros; rfl
theorem aP1:type_of% (fun v0 v1 v2 => @frz0.eq_3 v0 (A.clo v1 v2) (by nofun) (by nofun)):=by intros; rfl
theorem aPD:type_of% (fun v0 v1 => @frz0.eq_3 v0 (A.agg v1) (by nofun) (by nofun)):=by intros; rfl
theorem aQc:type_of% (fun v0 v1 => @frz0.eq_3 v0 (A.tup v1) (by nofun) (by nofun)):=by intros; rfl
theorem aPr:type_of% (fun v0 => @frz0.eq_3 v0 A.junk (by nofun) (by nofun)):=by intros; rfl
theorem aOV:type_of% (fun v0 => @aO.eq_2 (A.d v0) (by nofun)):=by intros; rfl
theorem aPV:type_of% (fun v0 v1 v2 v3 => @aO.eq_2 (A.sl v0 v1 v2 v3) (by nofun)):=by intros; rfl
theorem aPA:type_of% (fun v0 v1 v2 => @aO.eq_2 (A.ptr v0 v1 v2) (by nofun)):=by intros; rfl
theorem aON:type_of% (fun v0 => @aO.eq_2 (A.mp v0) (by nofun)):=by intros; rfl
theorem aPj:type_of% (fun v0 v1 => @aO.eq_2 (A.clo v0 v1) (by nofun)):=by intros; rfl
theorem aPc:type_of% (fun v0 => @aO.eq_2 (A.tup v0) (by nofun)):=by intros; rfl
theorem aPR:type_of% (@aO.eq_2 A.junk (by nofun)):=(@aO.eq_2 A.junk (by nofun))
theorem aOy:type_of% (fun v0 v1 => @cV.eq_5 (A.d (D.int v0 v1)) (by nofun) (by nofun) (by nofun) (by nofun)):=by intros; rfl
theorem aPK:type_of% (fun v0 => @cV.eq_5 (A.d (D.bool v0)) (by nofun) (by nofun) (by nofun) (by nofun)):=by intros; rfl
theorem aPf:type_of% (fun v0 => @cV.eq_5 (A.d (D.str v0)) (by nofun) (by nofun) (by nofun) (by nofun)):=by intros; rfl
theorem aPF:type_of% (fun v0 v1 => @cV.eq_5 (A.d (D.ivs v0 v1)) (by nofun) (by nofun) (by nofun) (by nofun)):=by intros; rfl
theorem aLM:type_of% (@cV.eq_5 (A.d D.nils) (by nofun) (by nofun) (by nofun) (by nofun)):=(@cV.eq_5 (A.d D.nils) (by nofun) (by nofun) (by nofun) (by nofun))
theorem aLh:type_of% (fun v0 => @cV.eq_5 (A.d (D.iptr v0)) (by nofun) (by nofun) (by nofun) (by nofun)):=by intros; rfl
theorem aMH:type_of% (@cV.eq_5 (A.d D.nilp) (by nofun) (by nofun) (by nofun) (by nofun)):=(@cV.eq_5 (A.d D.nilp) (by nofun) (by nofun) (by nofun) (by nofun))
theorem aMF:type_of% (fun v0 v1 => @cV.eq_5 (A.d (D.fn v0 v1)) (by nofun) (by nofun) (by nofun) (by nofun)):=by intros; rfl
theorem aJ5:type_of% (@cV.eq_5 (A.d D.nilfn) (by nofun) (by nofun) (by nofun) (by nofun)):=(@cV.eq_5 (A.d D.nilfn) (by nofun) (by nofun) (by nofun) (by nofun))
theorem aLw:type_of% (@cV.eq_5 (A.d D.nili) (by nofun) (by nofun) (by nofun) (by nofun)):=(@cV.eq_5 (A.d D.nili) (by nofun) (by nofun) (by nofun) (by nofun))
theorem aK5:type_of% (@cV.eq_5 (A.d D.nilm) (by nofun) (by nofun) (by nofun) (by nofun)):=(@cV.eq_5 (A.d D.nilm) (by nofun) (by nofun) (by nofun) (by nofun))
theorem aLY:type_of% (fun v0 v1 => @cV.eq_5 (A.d (D.ifc v0 v1)) (by nofun) (by nofun) (by nofun) (by nofun)):=by intros; rfl
theorem aJX:type_of% (fun v0 v1 v2 v3 => @cV.eq_5 (A.sl v0 v1 v2 v3) (by nofun) (by nofun) (by nofun) (by nofun)):=by intros; rfl
theorem aLD:type_of% (fun v0 v1 v2 => @cV.eq_5 (A.ptr v0 v1 v2) (by nofun) (by nofun) (by nofun) (by nofun)):=by intros; rfl
theorem aK9:type_of% (fun v0 => @cV.eq_5 (A.mp v0) (by nofun) (by nofun) (by nofun) (by nofun)):=by intros; rfl
theorem aK7:type_of% (fun v0 v1 => @cV.eq_5 (A.clo v0 v1) (by nofun) (by nofun) (by nofun) (by nofun)):=by intros; rfl
theorem aK0:type_of% (fun v0 => @m6.eq_2 (A.d v0) (by nofun)):=by intros; rfl
theorem aM2:type_of% (fun v0 v1 v2 v3 => @m6.eq_2 (A.sl v0 v1 v2 v3) (by nofun)):=by intros; rfl
theorem aL9:type_of% (fun v0 v1 v2 => @m6.eq_2 (A.ptr v0 v1 v2) (by nofun)):=by intros; rfl
theorem aMn:type_of% (fun v0 => @m6.eq_2 (A.mp v0) (by nofun)):=by intros; rfl
theorem aKm:type_of% (fun v0 v1 => @m6.eq_2 (A.clo v0 v1) (by nofun)):=by intros; rfl
theorem aJ0:type_of% (fun v0 => @m6.eq_2 (A.agg v0) (by nofun)):=by intros; rfl
theorem aKW:type_of% (fun v0 => @m6.eq_2 (A.tup v0) (by nofun)):=by intros; rfl
theorem aLR:type_of% (fun v0 v1 v2 v3 => @gE.eq_4 (O.arr v1 v2 v3) v0 (by nofun) (by nofun)):=by intros; rfl
theorem aMt:type_of% (fun v0 v1 v2 v3 => @gE.eq_4 (O.ice v1 v2 v3) v0 (by nofun) (by nofun)):=by intros; rfl
theorem aKY:type_of% (fun v0 v1 => @gE.eq_4 (O.mp v1) v0 (by nofun) (by nofun)):=by intros; rfl
theorem aLg:type_of% (fun v0 => @gE.eq_4 O.void v0 (by nofun) (by nofun)):=by intros; rfl
theorem aNa:type_of% (@tupA.eq_2 List.nil (by nofun)):=(@tupA.eq_2 List.nil (by nofun))
theorem aLX:type_of% (fun v0 v1 v2 => @tupA.eq_2 (List.cons v0 (List.cons v1 v2)) (by nofun)):=by intros; rfl
theorem aM4:type_of% (fun v0 => @C8.eq_2 List.nil v0 (by nofun)):=by intros; rfl
theorem aM5:type_of% (fun v0 v1 => @C8.eq_2 (List.cons v1 List.nil) v0 (by nofun)):=by intros; rfl
theorem aLp:type_of% (fun v0 v1 v2 => @C8.eq_2 (List.cons v1 (List.cons v2 List.nil)) v0 (by nofun)):=by intros; rfl
theorem aLK:type_of% (fun v0 v1 v2 v3 v4 v5 => @C8.eq_2 (List.cons v1 (List.cons v2 (List.cons v3 (List.cons v4 v5)))) v0 (by nofun)):=by intros; rfl
theorem aKS:type_of% (fun v0 v1 v2 v3 v4 => @dP.eq_2 v0 v1 (Go.Operand.tmp v4) v2 v3 (by nofun)):=by intros; rfl
theorem aKO:type_of% (fun v0 v1 v2 v3 => @dP.eq_2 v0 v1 (Go.Operand.const v3) v2 (A.d D.undef) (by nofun)):=by intros; rfl
theorem aKo:type_of% (fun v0 v1 v2 v3 v4 v5 => @dP.eq_2 v0 v1 (Go.Operand.const v3) v2 (A.d (D.int v4 v5)) (by nofun)):=by intros; rfl
theorem aL0:type_of% (fun v0 v1 v2 v3 v4 => @dP.eq_2 v0 v1 (Go.Operand.const v3) v2 (A.d (D.bool v4)) (by nofun)):=by intros; rfl
theorem aJU:type_of% (fun v0 v1 v2 v3 v4 => @dP.eq_2 v0 v1 (Go.Operand.const v3) v2 (A.d (D.str v4)) (by nofun)):=by intros; rfl
theorem aKw:type_of% (fun v0 v1 v2 v3 v4 v5 => @dP.eq_2 v0 v1 (Go.Operand.const v3) v2 (A.d (D.ivs v4 v5)) (by nofun)):=by intros; rfl
theorem aMQ:type_of% (fun v0 v1 v2 v3 v4 => @dP.eq_2 v0 v1 (Go.Operand.const v3) v2 (A.d (D.iptr v4)) (by nofun)):=by intros; rfl
theorem aKT:type_of% (fun v0 v1 v2 v3 => @dP.eq_2 v0 v1 (Go.Operand.const v3) v2 (A.d D.nilp) (by nofun)):=by intros; rfl
theorem aKN:type_of% (fun v0 v1 v2 v3 v4 v5 => @dP.eq_2 v0 v1 (Go.Operand.const v3) v2 (A.d (D.fn v4 v5)) (by nofun)):=by intros; rfl
theorem aMs:type_of% (fun v0 v1 v2 v3 => @dP.eq_2 v0 v1 (Go.Operand.const v3) v2 (A.d D.nilfn) (by nofun)):=by intros; rfl
theorem aLB:type_of% (fun v0 v1 v2 v3 => @dP.eq_2 v0 v1 (Go.Operand.const v3) v2 (A.d D.nili) (by nofun)):=by intros; rfl
theorem aKd:type_of% (fun v0 v1 v2 v3 => @dP.eq_2 v0 v1 (Go.Operand.const v3) v2 (A.d D.nilm) (by nofun)):=by intros; rfl
theorem aMk:type_of% (fun v0 v1 v2 v3 v4 v5 => @dP.eq_2 v0 v1 (Go.Operand.const v3) v2 (A.d (D.ifc v4 v5)) (by nofun)):=by intros; rfl
theorem aLa:type_of% (fun v0 v1 v2 v3 v4 v5 v6 v7 => @dP.eq_2 v0 v1 (Go.Operand.const v3) v2 (A.sl v4 v5 v6 v7) (by nofun)):=by intros; rfl
theorem aME:type_of% (fun v0 v1 v2 v3 v4 v5 v6 => @dP.eq_2 v0 v1 (Go.Operand.const v3) v2 (A.ptr v4 v5 v6) (by nofun)):=by intros; rfl
theorem aMu:type_of% (fun v0 v1 v2 v3 v4 => @dP.eq_2 v0 v1 (Go.Operand.const v3) v2 (A.mp v4) (by nofun)):=by intros; rfl
theorem aLz:type_of% (fun v0 v1 v2 v3 v4 v5 => @dP.eq_2 v0 v1 (Go.Operand.const v3) v2 (A.clo v4 v5) (by nofun)):=by intros; rfl
theorem aMW:type_of% (fun v0 v1 v2 v3 v4 => @dP.eq_2 v0 v1 (Go.Operand.const v3) v2 (A.agg v4) (by nofun)):=by intros; rfl
theorem aKt:type_of% (fun v0 v1 v2 v3 v4 => @dP.eq_2 v0 v1 (Go.Operand.const v3) v2 (A.tup v4) (by nofun)):=by intros; rfl
theorem aLy:type_of% (fun v0 v1 v2 v3 => @dP.eq_2 v0 v1 (Go.Operand.const v3) v2 A.junk (by nofun)):=by intros; rfl
theorem aLe:type_of% (fun v0 v1 v2 v3 v4 => @dP.eq_2 v0 v1 (Go.Operand.global v4) v2 v3 (by nofun)):=by intros; rfl
theorem aMq:type_of% (fun v0 v1 v2 v3 v4 => @dP.eq_2 v0 v1 (Go.Operand.func v4) v2 v3 (by nofun)):=by intros; rfl
theorem aMV:type_of% (fun v0 => @bV.eq_2 (Go.Op.move v0) (by nofun)):=by intros; rfl
theorem aLZ:type_of% (fun v0 => @bV.eq_2 (Go.Op.assign v0) (by nofun)):=by intros; rfl
theorem aLS:type_of% (fun v0 v1 v2 => @bV.eq_2 (Go.Op.pick v0 v1 v2) (by nofun)):=by intros; rfl
theorem aMx:type_of% (fun v0 => @bV.eq_2 (Go.Op.alloc v0) (by nofun)):=by intros; rfl
theorem aLj:type_of% (fun v0 v1 => @bV.eq_2 (Go.Op.box v0 v1) (by nofun)):=by intros; rfl
theorem aM9:type_of% (fun v0 v1 => @bV.eq_2 (Go.Op.build v0 v1) (by nofun)):=by intros; rfl
theorem aLr:type_of% (fun v0 v1 v2 => @bV.eq_2 (Go.Op.buildSlice v0 v1 v2) (by nofun)):=by intros; rfl
theorem aKQ:type_of% (fun v0 v1 v2 v3 => @bV.eq_2 (Go.Op.insert v0 v1 v2 v3) (by nofun)):=by intros; rfl
theorem aMY:type_of% (fun v0 v1 => @bV.eq_2 (Go.Op.load v0 v1) (by nofun)):=by intros; rfl
theorem aMX:type_of% (fun v0 v1 v2 => @bV.eq_2 (Go.Op.store v0 v1 v2) (by nofun)):=by intros; rfl
theorem aLV:type_of% (fun v0 => @bV.eq_2 (Go.Op.ready v0) (by nofun)):=by intros; rfl
theorem aLs:type_of% (fun v0 => @bV.eq_2 (Go.Op.waits v0) (by nofun)):=by intros; rfl
theorem aM8:type_of% (fun v0 => @bV.eq_2 (Go.Op.nilCheck v0) (by nofun)):=by intros; rfl
theorem aLG:type_of% (fun v0 v1 v2 v3 v4 => @bV.eq_2 (Go.Op.binOp v0 v1 v2 v3 v4) (by nofun)):=by intros; rfl
theorem aMl:type_of% (fun v0 v1 v2 => @bV.eq_2 (Go.Op.unOp v0 v1 v2) (by nofun)):=by intros; rfl
theorem aKV:type_of% (fun v0 v1 v2 => @bV.eq_2 (Go.Op.convert v0 v1 v2) (by nofun)):=by intros; rfl
theorem aK3:type_of% (fun v0 v1 => @bV.eq_2 (Go.Op.sliceToArrayPointer v0 v1) (by nofun)):=by intros; rfl
theorem aLb:type_of% (fun v0 v1 => @bV.eq_2 (Go.Op.makeInterface v0 v1) (by nofun)):=by intros; rfl
theorem aMK:type_of% (fun v0 v1 v2 => @bV.eq_2 (Go.Op.makeFunc v0 v1 v2) (by nofun)):=by intros; rfl
theorem aMo:type_of% (fun v0 v1 => @bV.eq_2 (Go.Op.makeMap v0 v1) (by nofun)):=by intros; rfl
theorem aLW:type_of% (fun v0 v1 => @bV.eq_2 (Go.Op.makeChan v0 v1) (by nofun)):=by intros; rfl
theorem aLc:type_of% (fun v0 v1 v2 => @bV.eq_2 (Go.Op.makeSlice v0 v1 v2) (by nofun)):=by intros; rfl
theorem aKg:type_of% (fun v0 v1 v2 v3 v4 => @bV.eq_2 (Go.Op.slice v0 v1 v2 v3 v4) (by nofun)):=by intros; rfl
theorem aKK:type_of% (fun v0 v1 v2 => @bV.eq_2 (Go.Op.fieldAddr v0 v1 v2) (by nofun)):=by intros; rfl
theorem aLk:type_of% (fun v0 v1 v2 => @bV.eq_2 (Go.Op.field v0 v1 v2) (by nofun)):=by intros; rfl
theorem aMG:type_of% (fun v0 v1 v2 => @bV.eq_2 (Go.Op.indexAddr v0 v1 v2) (by nofun)):=by intros; rfl
theorem aK4:type_of% (fun v0 v1 v2 => @bV.eq_2 (Go.Op.index v0 v1 v2) (by nofun)):=by intros; rfl
theorem aKu:type_of% (fun v0 v1 v2 v3 => @bV.eq_2 (Go.Op.lookup v0 v1 v2 v3) (by nofun)):=by intros; rfl
theorem aJ8:type_of% (fun v0 v1 v2 v3 => @bV.eq_2 (Go.Op.mapUpdate v0 v1 v2 v3) (by nofun)):=by intros; rfl
theorem aLH:type_of% (fun v0 v1 v2 => @bV.eq_2 (Go.Op.mapEntry v0 v1 v2) (by nofun)):=by intros; rfl
theorem aKH:type_of% (fun v0 v1 v2 v3 => @bV.eq_2 (Go.Op.entryStore v0 v1 v2 v3) (by nofun)):=by intros; rfl
theorem aK6:type_of% (fun v0 v1 => @bV.eq_2 (Go.Op.range v0 v1) (by nofun)):=by intros; rfl
theorem aLF:type_of% (fun v0 v1 => @bV.eq_2 (Go.Op.next v0 v1) (by nofun)):=by intros; rfl
theorem aLJ:type_of% (fun v0 => @bV.eq_2 (Go.Op.entry v0) (by nofun)):=by intros; rfl
theorem aLE:type_of% (fun v0 v1 v2 v3 => @bV.eq_2 (Go.Op.typeAssert v0 v1 v2 v3) (by nofun)):=by intros; rfl
theorem aMP:type_of% (fun v0 v1 => @bV.eq_2 (Go.Op.extract v0 v1) (by nofun)):=by intros; rfl
theorem aKD:type_of% (fun v0 => @bV.eq_2 (Go.Op.go v0) (by nofun)):=by intros; rfl
theorem aMc:type_of% (fun v0 => @bV.eq_2 (Go.Op.defer v0) (by nofun)):=by intros; rfl
theorem aMD:type_of% (fun v0 => @bV.eq_2 (Go.Op.panic v0) (by nofun)):=by intros; rfl
theorem aMA:type_of% (fun v0 v1 => @bV.eq_2 (Go.Op.send v0 v1) (by nofun)):=by intros; rfl
theorem aMJ:type_of% (fun v0 v1 v2 => @bV.eq_2 (Go.Op.recv v0 v1 v2) (by nofun)):=by intros; rfl
theorem aLO:type_of% (fun v0 v1 => @bV.eq_2 (Go.Op.select v0 v1) (by nofun)):=by intros; rfl
theorem aLC:type_of% (fun v0 v1 => @aT.eq_3 v0 (A.d D.undef) v1 (by nofun)):=by intros; rfl
theorem aKy:type_of% (fun v0 v1 v2 v3 => @aT.eq_3 v0 (A.d (D.int v2 v3)) v1 (by nofun)):=by intros; rfl
theorem aMr:type_of% (fun v0 v1 v2 => @aT.eq_3 v0 (A.d (D.bool v2)) v1 (by nofun)):=by intros; rfl
theorem aLt:type_of% (fun v0 v1 v2 => @aT.eq_3 v0 (A.d (D.str v2)) v1 (by nofun)):=by intros; rfl
theorem aKc:type_of% (fun v0 v1 v2 v3 => @aT.eq_3 v0 (A.d (D.ivs v2 v3)) v1 (by nofun)):=by intros; rfl
theorem aLI:type_of% (fun v0 v1 v2 => @aT.eq_3 v0 (A.d (D.iptr v2)) v1 (by nofun)):=by intros; rfl
theorem aLl:type_of% (fun v0 v1 => @aT.eq_3 v0 (A.d D.nilp) v1 (by nofun)):=by intros; rfl
theorem aMd:type_of% (fun v0 v1 v2 v3 => @aT.eq_3 v0 (A.d (D.fn v2 v3)) v1 (by nofun)):=by intros; rfl
theorem aMy:type_of% (fun v0 v1 => @aT.eq_3 v0 (A.d D.nilfn) v1 (by nofun)):=by intros; rfl
theorem aMj:type_of% (fun v0 v1 => @aT.eq_3 v0 (A.d D.nili) v1 (by nofun)):=by intros; rfl
theorem aNb:type_of% (fun v0 v1 => @aT.eq_3 v0 (A.d D.nilm) v1 (by nofun)):=by intros; rfl
theorem aLv:type_of% (fun v0 v1 v2 v3 => @aT.eq_3 v0 (A.d (D.ifc v2 v3)) v1 (by nofun)):=by intros; rfl
theorem aM7:type_of% (fun v0 v1 v2 v3 v4 v5 => @aT.eq_3 v0 (A.sl v2 v3 v4 v5) v1 (by nofun)):=by intros; rfl
theorem aJW:type_of% (fun v0 v1 v2 v3 v4 => @aT.eq_3 v0 (A.ptr v2 v3 v4) v1 (by nofun)):=by intros; rfl
theorem aKl:type_of% (fun v0 v1 v2 => @aT.eq_3 v0 (A.mp v2) v1 (by nofun)):=by intros; rfl
theorem aJ4:type_of% (fun v0 v1 v2 v3 => @aT.eq_3 v0 (A.clo v2 v3) v1 (by nofun)):=by intros; rfl
theorem aL3:type_of% (fun v0 v1 v2 => @aT.eq_3 v0 (A.agg v2) v1 (by nofun)):=by intros; rfl
theorem aKP:type_of% (fun v0 v1 v2 => @aT.eq_3 v0 (A.tup v2) v1 (by nofun)):=by intros; rfl
theorem aLo:type_of% (fun v0 v1 => @aT.eq_3 v0 A.junk v1 (by nofun)):=by intros; rfl
theorem aLu:type_of% (fun v0 v1 v2 v3 => @mapO.eq_3 v0 (O.arr v1 v2 v3) (by nofun) (by nofun)):=by intros; rfl
theorem aK2:type_of% (fun v0 v1 v2 v3 => @mapO.eq_3 v0 (O.ice v1 v2 v3) (by nofun) (by nofun)):=by intros; rfl
theorem aKR:type_of% (fun v0 v1 => @mapO.eq_3 v0 (O.mp v1) (by nofun) (by nofun)):=by intros; rfl
theorem aLA:type_of% (fun v0 => @mapO.eq_3 v0 O.void (by nofun) (by nofun)):=by intros; rfl
theorem aML:type_of% (fun v0 v1 => @frzA.eq_2 v0 (A.d v1) (by nofun)):=by intros; rfl
theorem aKE:type_of% (fun v0 v1 v2 v3 v4 => @frzA.eq_2 v0 (A.sl v1 v2 v3 v4) (by nofun)):=by intros; rfl
theorem aL7:type_of% (fun v0 v1 v2 v3 => @frzA.eq_2 v0 (A.ptr v1 v2 v3) (by nofun)):=by intros; rfl
theorem aKp:type_of% (fun v0 v1 => @frzA.eq_2 v0 (A.mp v1) (by nofun)):=by intros; rfl
theorem aLm:type_of% (fun v0 v1 v2 => @frzA.eq_2 v0 (A.clo v1 v2) (by nofun)):=by intros; rfl
theorem aKs:type_of% (fun v0 v1 => @frzA.eq_2 v0 (A.tup v1) (by nofun)):=by intros; rfl
theorem aMZ:type_of% (fun v0 => @frzA.eq_2 v0 A.junk (by nofun)):=by intros; rfl
theorem aKB:type_of% (fun v0 v1 v2 v3 v4 v5 v6 => @fE.eq_4 v0 v1 v2 (Go.Callee.invoke v5 v6) v3 v4 (by nofun) (by nofun)):=by intros; rfl
theorem UN0:type_of% (AI @aAb (AI @aEq (AI @aBG (AI @X2 (AI @aBd (AI @aFj (AI @aId (AI @aDi (AI @aIx (AI @aAw (AI @aIG (AI @aDg (AI @aLen.eq_def (AI @RJ (AI @aBf (AI @aAQ (AI @aEg (AI @W7 (AI @UB (AI @aC3 (AI @WL (AI @aAL (AI @TJ (AI @Q4 (AI @TN (AI @aC0 (AI @aC1 (AI @aEi (AI @aDF (AI @aIt (AI @aIe (AI @aII (AI @List.replicate.eq_1.{0} (AI @List.replicate.eq_2.{0} (AI @List.range'.eq_1 (AI @List.range'.eq_2 (AI True.intro (AI @D3.eq_1 (AI @D3.eq_2 @N5.eq_1))))))))))))))))))))))))))))))))))))))) :=
 ⟨@aAb,@aEq,@aBG,@X2,@aBd,@aFj,@aId,@aDi,@aIx,@aAw,@aIG,@aDg,@aLen.eq_def,@RJ,@aBf,@aAQ,@aEg,@W7,@UB,@aC3,@WL,@aAL,@TJ,@Q4,@TN,@aC0,@aC1,@aEi,@aDF,@aIt,@aIe,@aII,@List.replicate.eq_1.{0},@List.replicate.eq_2.{0},@List.range'.eq_1,@List.range'.eq_2,True.intro,@D3.eq_1,@D3.eq_2,@N5.eq_1⟩
theorem UN1:type_of% (AI @aPut.eq_1 (AI @aPut.eq_2 (AI @iX.eq_1 (AI @iX.eq_2 (AI @UNx1 (AI @UNx2 (AI @UNx3 (AI @UNx4 (AI @outA.eq_1 (AI @UNx5 (AI @UNx6 (AI @UNx7 (AI @UNx8 (AI @UNx9 (AI @aPh (AI @aOG (AI @outS.eq_1 (AI @aPI (AI @aPE (AI @aOL (AI @aP8 (AI @aPM (AI @aP3 (AI @aO1 (AI @aOI (AI @aOK (AI @aPn (AI @aOQ (AI @aPe (AI @outS.eq_3 (AI @outS.eq_4 (AI @outS.eq_5 (AI @aPz (AI @aPZ (AI @aO7 (AI @aOx (AI @AQ.eq_1 (AI @AQ.eq_2 (AI @idsA.eq_1 @idsA.eq_2))))))))))))))))))))))))))))))))))))))) :=
 ⟨@aPut.eq_1,@aPut.eq_2,@iX.eq_1,@iX.eq_2,@UNx1,@UNx2,@UNx3,@UNx4,@outA.eq_1,@UNx5,@UNx6,@UNx7,@UNx8,@UNx9,@aPh,@aOG,@outS.eq_1,@aPI,@aPE,@aOL,@aP8,@aPM,@aP3,@aO1,@aOI,@aOK,@aPn,@aOQ,@aPe,@outS.eq_3,@outS.eq_4,@outS.eq_5,@aPz,@aPZ,@aO7,@aOx,@AQ.eq_1,@AQ.eq_2,@idsA.eq_1,@idsA.eq_2⟩
theorem UN2:type_of% (AI @idsA.eq_3 (AI @idsA.eq_4 (AI @idsA.eq_5 (AI @idsA.eq_6 (AI @idsA.eq_7 (AI @idsA.eq_8 (AI @idsL.eq_1 (AI @idsL.eq_2 (AI @mapA.eq_1 (AI @mapA.eq_2 (AI @mapA.eq_3 (AI @mapA.eq_4 (AI @mapA.eq_5 (AI @mapA.eq_6 (AI @mapA.eq_7 (AI @mapA.eq_8 (AI @aR.eq_1 (AI @aR.eq_2 (AI @bO.eq_1 (AI @bO.eq_2 (AI @bO.eq_3 (AI @bO.eq_4 (AI @bO.eq_5 (AI @bO.eq_6 (AI @bO.eq_7 (AI @bO.eq_8 (AI @jL.eq_1 (AI @JT.eq_1 (AI @a6.eq_1 (AI @dU.eq_1 (AI @gJ.eq_1 (AI @gJ.eq_2 (AI @c9.eq_1 (AI @c9.eq_2 (AI @c9.eq_3 (AI @c9.eq_4 (AI @c9.eq_5 (AI @c9.eq_6 (AI @aH.eq_1 @aH.eq_2))))))))))))))))))))))))))))))))))))))) :=
 ⟨@idsA.eq_3,@idsA.eq_4,@idsA.eq_5,@idsA.eq_6,@idsA.eq_7,@idsA.eq_8,@idsL.eq_1,@idsL.eq_2,@mapA.eq_1,@mapA.eq_2,@mapA.eq_3,@mapA.eq_4,@mapA.eq_5,@mapA.eq_6,@mapA.eq_7,@mapA.eq_8,@aR.eq_1,@aR.eq_2,@bO.eq_1,@bO.eq_2,@bO.eq_3,@bO.eq_4,@bO.eq_5,@bO.eq_6,@bO.eq_7,@bO.eq_8,@jL.eq_1,@JT.eq_1,@a6.eq_1,@dU.eq_1,@gJ.eq_1,@gJ.eq_2,@c9.eq_1,@c9.eq_2,@c9.eq_3,@c9.eq_4,@c9.eq_5,@c9.eq_6,@aH.eq_1,@aH.eq_2⟩
theorem UN3:type_of% (AI @pO.eq_1 (AI @pO.eq_2 (AI @pO.eq_3 (AI @aPu (AI @eC.eq_1 (AI @eC.eq_2 (AI @aP0 (AI @aOM (AI @aOO (AI @aPa (AI @aQb (AI @aPd (AI @aPT (AI @aOB (AI @aOS (AI @aP9 (AI @aO6 (AI @aO0 (AI @aO8 (AI @aPX (AI @aPw (AI @aOF (AI @aPq (AI @aP2 (AI @tidy.eq_1 (AI @tidy.eq_2 (AI @aPv (AI @aPg (AI @aPB (AI @c4.eq_1 (AI @aOJ (AI @aPp (AI @aO3 (AI @aOC (AI @aPU (AI @aOE (AI @aPQ (AI @c4.eq_3 (AI @jZ.eq_1 @aPP))))))))))))))))))))))))))))))))))))))) :=
 ⟨@pO.eq_1,@pO.eq_2,@pO.eq_3,@aPu,@eC.eq_1,@eC.eq_2,@aP0,@aOM,@aOO,@aPa,@aQb,@aPd,@aPT,@aOB,@aOS,@aP9,@aO6,@aO0,@aO8,@aPX,@aPw,@aOF,@aPq,@aP2,@tidy.eq_1,@tidy.eq_2,@aPv,@aPg,@aPB,@c4.eq_1,@aOJ,@aPp,@aO3,@aOC,@aPU,@aOE,@aPQ,@c4.eq_3,@jZ.eq_1,@aPP⟩
theorem UN4:type_of% (AI @aP5 (AI @aOH (AI @aOU (AI @aPN (AI @aOz (AI @aPL (AI @nF.eq_1 (AI @qU.eq_1 (AI @GV.eq_1 (AI @wQ.eq_1 (AI @aOX (AI @aOR (AI @aQa (AI @aPl (AI @aPi (AI @aPY (AI @aOP (AI @H6.eq_1 (AI @j3.eq_1 (AI @aPm (AI @aPW (AI @aO9 (AI @aPb (AI @aO5 (AI @aOT (AI @aOW (AI @GZ.eq_1 (AI @tV.eq_1 (AI @cX.eq_1 (AI @cX.eq_2 (AI @cX.eq_3 (AI @cX.eq_4 (AI @rS.eq_1 (AI @qW.eq_1 (AI @DG.eq_1 (AI @pM.eq_1 (AI @pM.eq_2 (AI @rX.eq_1 (AI @kX.eq_1 @eI.eq_1))))))))))))))))))))))))))))))))))))))) :=
 ⟨@aP5,@aOH,@aOU,@aPN,@aOz,@aPL,@nF.eq_1,@qU.eq_1,@GV.eq_1,@wQ.eq_1,@aOX,@aOR,@aQa,@aPl,@aPi,@aPY,@aOP,@H6.eq_1,@j3.eq_1,@aPm,@aPW,@aO9,@aPb,@aO5,@aOT,@aOW,@GZ.eq_1,@tV.eq_1,@cX.eq_1,@cX.eq_2,@cX.eq_3,@cX.eq_4,@rS.eq_1,@qW.eq_1,@DG.eq_1,@pM.eq_1,@pM.eq_2,@rX.eq_1,@kX.eq_1,@eI.eq_1⟩
theorem UN5:type_of% (AI @eI.eq_2 (AI @eI.eq_3 (AI @frzL.eq_1 (AI @hZ.eq_1 (AI @hZ.eq_2 (AI @frz.eq_1 (AI @frz.eq_2 (AI @frz.eq_3 (AI @frz.eq_4 (AI @aO4 (AI @aPy (AI @aPS (AI @aOA (AI @aPk (AI @frz0.eq_1 (AI @frz0.eq_2 (AI @aPt (AI @aPH (AI @aP1 (AI @aPD (AI @aQc (AI @aPr (AI @deep.eq_1 (AI @aO.eq_1 (AI @aOV (AI @aPV (AI @aPA (AI @aON (AI @aPj (AI @aPc (AI @aPR (AI @bS.eq_1 (AI @cV.eq_1 (AI @cV.eq_2 (AI @cV.eq_3 (AI @cV.eq_4 (AI @aOy (AI @aPK (AI @aPf @aPF))))))))))))))))))))))))))))))))))))))) :=
 ⟨@eI.eq_2,@eI.eq_3,@frzL.eq_1,@hZ.eq_1,@hZ.eq_2,@frz.eq_1,@frz.eq_2,@frz.eq_3,@frz.eq_4,@aO4,@aPy,@aPS,@aOA,@aPk,@frz0.eq_1,@frz0.eq_2,@aPt,@aPH,@aP1,@aPD,@aQc,@aPr,@deep.eq_1,@aO.eq_1,@aOV,@aPV,@aPA,@aON,@aPj,@aPc,@aPR,@bS.eq_1,@cV.eq_1,@cV.eq_2,@cV.eq_3,@cV.eq_4,@aOy,@aPK,@aPf,@aPF⟩
theorem UN6:type_of% (AI @aLM (AI @aLh (AI @aMH (AI @aMF (AI @aJ5 (AI @aLw (AI @aK5 (AI @aLY (AI @aJX (AI @aLD (AI @aK9 (AI @aK7 (AI @m6.eq_1 (AI @aK0 (AI @aM2 (AI @aL9 (AI @aMn (AI @aKm (AI @aJ0 (AI @aKW (AI @gE.eq_1 (AI @gE.eq_2 (AI @gE.eq_3 (AI @aLR (AI @aMt (AI @aKY (AI @aLg (AI @oA.eq_1 (AI @oA.eq_2 (AI @CU.eq_1 (AI @CU.eq_2 (AI @rK.eq_1 (AI @rK.eq_2 (AI @tupA.eq_1 (AI @aNa (AI @aLX (AI @jP.eq_1 (AI @jP.eq_2 (AI @jP.eq_3 @jP.eq_4))))))))))))))))))))))))))))))))))))))) :=
 ⟨@aLM,@aLh,@aMH,@aMF,@aJ5,@aLw,@aK5,@aLY,@aJX,@aLD,@aK9,@aK7,@m6.eq_1,@aK0,@aM2,@aL9,@aMn,@aKm,@aJ0,@aKW,@gE.eq_1,@gE.eq_2,@gE.eq_3,@aLR,@aMt,@aKY,@aLg,@oA.eq_1,@oA.eq_2,@CU.eq_1,@CU.eq_2,@rK.eq_1,@rK.eq_2,@tupA.eq_1,@aNa,@aLX,@jP.eq_1,@jP.eq_2,@jP.eq_3,@jP.eq_4⟩
theorem UN7:type_of% (AI @uU.eq_1 (AI @uU.eq_2 (AI @opds.eq_1 (AI @opds.eq_2 (AI @opds.eq_3 (AI @opds.eq_4 (AI @opds.eq_5 (AI @opds.eq_6 (AI @opds.eq_7 (AI @opds.eq_8 (AI @opds.eq_9 (AI @opds.eq_10 (AI @opds.eq_11 (AI @opds.eq_12 (AI @opds.eq_13 (AI @opds.eq_14 (AI @opds.eq_15 (AI @opds.eq_16 (AI @opds.eq_17 (AI @opds.eq_18 (AI @opds.eq_19 (AI @opds.eq_20 (AI @opds.eq_21 (AI @opds.eq_22 (AI @opds.eq_23 (AI @opds.eq_24 (AI @evOp.eq_1 (AI @gC.eq_1 (AI @one.eq_1 (AI @two.eq_1 (AI @C8.eq_1 (AI @aM4 (AI @aM5 (AI @aLp (AI @aLK (AI @CE.eq_1 (AI @pY.eq_1 (AI @dP.eq_1 (AI @aKS @aKO))))))))))))))))))))))))))))))))))))))) :=
 ⟨@uU.eq_1,@uU.eq_2,@opds.eq_1,@opds.eq_2,@opds.eq_3,@opds.eq_4,@opds.eq_5,@opds.eq_6,@opds.eq_7,@opds.eq_8,@opds.eq_9,@opds.eq_10,@opds.eq_11,@opds.eq_12,@opds.eq_13,@opds.eq_14,@opds.eq_15,@opds.eq_16,@opds.eq_17,@opds.eq_18,@opds.eq_19,@opds.eq_20,@opds.eq_21,@opds.eq_22,@opds.eq_23,@opds.eq_24,@evOp.eq_1,@gC.eq_1,@one.eq_1,@two.eq_1,@C8.eq_1,@aM4,@aM5,@aLp,@aLK,@CE.eq_1,@pY.eq_1,@dP.eq_1,@aKS,@aKO⟩
theorem UN8:type_of% (AI @aKo (AI @aL0 (AI @aJU (AI @aKw (AI @aMQ (AI @aKT (AI @aKN (AI @aMs (AI @aLB (AI @aKd (AI @aMk (AI @aLa (AI @aME (AI @aMu (AI @aLz (AI @aMW (AI @aKt (AI @aLy (AI @aLe (AI @aMq (AI @aNew.eq_1 (AI @lB.eq_1 (AI @lB.eq_2 (AI @lB.eq_3 (AI @lB.eq_4 (AI @yK.eq_1 (AI @x3.eq_1 (AI @ON.eq_1 (AI @cN.eq_1 (AI @cN.eq_2 (AI @cN.eq_3 (AI @cN.eq_4 (AI @cN.eq_5 (AI @cN.eq_6 (AI @cN.eq_7 (AI @cN.eq_8 (AI @cN.eq_9 (AI @cN.eq_10 (AI @cN.eq_11 @bV.eq_1))))))))))))))))))))))))))))))))))))))) :=
 ⟨@aKo,@aL0,@aJU,@aKw,@aMQ,@aKT,@aKN,@aMs,@aLB,@aKd,@aMk,@aLa,@aME,@aMu,@aLz,@aMW,@aKt,@aLy,@aLe,@aMq,@aNew.eq_1,@lB.eq_1,@lB.eq_2,@lB.eq_3,@lB.eq_4,@yK.eq_1,@x3.eq_1,@ON.eq_1,@cN.eq_1,@cN.eq_2,@cN.eq_3,@cN.eq_4,@cN.eq_5,@cN.eq_6,@cN.eq_7,@cN.eq_8,@cN.eq_9,@cN.eq_10,@cN.eq_11,@bV.eq_1⟩
theorem UN9:type_of% (AI @aMV (AI @aLZ (AI @aLS (AI @aMx (AI @aLj (AI @aM9 (AI @aLr (AI @aKQ (AI @aMY (AI @aMX (AI @aLV (AI @aLs (AI @aM8 (AI @aLG (AI @aMl (AI @aKV (AI @aK3 (AI @aLb (AI @aMK (AI @aMo (AI @aLW (AI @aLc (AI @aKg (AI @aKK (AI @aLk (AI @aMG (AI @aK4 (AI @aKu (AI @aJ8 (AI @aLH (AI @aKH (AI @aK6 (AI @aLF (AI @aLJ (AI @aLE (AI @aMP (AI @aKD (AI @aMc (AI @aMD @aMA))))))))))))))))))))))))))))))))))))))) :=
 ⟨@aMV,@aLZ,@aLS,@aMx,@aLj,@aM9,@aLr,@aKQ,@aMY,@aMX,@aLV,@aLs,@aM8,@aLG,@aMl,@aKV,@aK3,@aLb,@aMK,@aMo,@aLW,@aLc,@aKg,@aKK,@aLk,@aMG,@aK4,@aKu,@aJ8,@aLH,@aKH,@aK6,@aLF,@aLJ,@aLE,@aMP,@aKD,@aMc,@aMD,@aMA⟩
theorem UN10:type_of% (AI @aMJ (AI @aLO (AI @back.eq_1 (AI @bG.eq_1 (AI @bG.eq_2 (AI @bG.eq_3 (AI @aG.eq_1 (AI @closed.eq_1 (AI @mP.eq_1 (AI @aT.eq_1 (AI @aT.eq_2 (AI @aLC (AI @aKy (AI @aMr (AI @aLt (AI @aKc (AI @aLI (AI @aLl (AI @aMd (AI @aMy (AI @aMj (AI @aNb (AI @aLv (AI @aM7 (AI @aJW (AI @aKl (AI @aJ4 (AI @aL3 (AI @aKP (AI @aLo (AI @aK.eq_1 (AI @aK.eq_2 (AI @pack.eq_1 (AI @mapO.eq_1 (AI @mapO.eq_2 (AI @aLu (AI @aK2 (AI @aKR (AI @aLA @bW.eq_1))))))))))))))))))))))))))))))))))))))) :=
 ⟨@aMJ,@aLO,@back.eq_1,@bG.eq_1,@bG.eq_2,@bG.eq_3,@aG.eq_1,@closed.eq_1,@mP.eq_1,@aT.eq_1,@aT.eq_2,@aLC,@aKy,@aMr,@aLt,@aKc,@aLI,@aLl,@aMd,@aMy,@aMj,@aNb,@aLv,@aM7,@aJW,@aKl,@aJ4,@aL3,@aKP,@aLo,@aK.eq_1,@aK.eq_2,@pack.eq_1,@mapO.eq_1,@mapO.eq_2,@aLu,@aK2,@aKR,@aLA,@bW.eq_1⟩
theorem UN11:type_of% (AI @frzA.eq_1 (AI @aML (AI @aKE (AI @aL7 (AI @aKp (AI @aLm (AI @aKs (AI @aMZ (AI @jO.eq_1 (AI @jO.eq_2 (AI @memD.eq_1 (AI @a5.eq_1 (AI @L5.eq_1 (AI @fE.eq_1 (AI @fE.eq_2 (AI @fE.eq_3 @aKB)))))))))))))))) :=
 ⟨@frzA.eq_1,@aML,@aKE,@aL7,@aKp,@aLm,@aKs,@aMZ,@jO.eq_1,@jO.eq_2,@memD.eq_1,@a5.eq_1,@L5.eq_1,@fE.eq_1,@fE.eq_2,@fE.eq_3,@aKB⟩
theorem UN:type_of% (AI @UN0 (AI @UN1 (AI @UN2 (AI @UN3 (AI @UN4 (AI @UN5 (AI @UN6 (AI @UN7 (AI @UN8 (AI @UN9 (AI @UN10 @UN11))))))))))) :=
 ⟨@UN0,@UN1,@UN2,@UN3,@UN4,@UN5,@UN6,@UN7,@UN8,@UN9,@UN10,@UN11⟩
theorem aP4:type_of% (fun v0 v1 v2 v3 v4 => @slim.eq_9 v0 (Go.Code.rangeFunc v1 v2 v3 v4) (by nofun) (by nofun) (by nofun) (by nofun) (by nofun) (by nofun) (by nofun) (by nofun)):=(fun v0 v1 v2 v3 v4 => @slim.eq_9 v0 (Go.Code.rangeFunc v1 v2 v3 v4) (by nofun) (by nofun) (by nofun) (by nofun) (by nofun) (by nofun) (by nofun) (by nofun))
theorem aPx:type_of% (fun v0 v1 => @slim.eq_9 v0 (Go.Code.scope v1) (by nofun) (by nofun) (by nofun) (by nofun) (by nofun) (by nofun) (by nofun) (by nofun)):=(fun v0 v1 => @slim.eq_9 v0 (Go.Code.scope v1) (by nofun) (by nofun) (by nofun) (by nofun) (by nofun) (by nofun) (by nofun) (by nofun))
theorem aPO:type_of% (fun v0 v1 => @slim.eq_9 v0 (Go.Code.label v1) (by nofun) (by nofun) (by nofun) (by nofun) (by nofun) (by nofun) (by nofun) (by nofun)):=(fun v0 v1 => @slim.eq_9 v0 (Go.Code.label v1) (by nofun) (by nofun) (by nofun) (by nofun) (by nofun) (by nofun) (by nofun) (by nofun))
theorem aO2:type_of% (fun v0 v1 => @slim.eq_9 v0 (Go.Code.goto v1) (by nofun) (by nofun) (by nofun) (by nofun) (by nofun) (by nofun) (by nofun) (by nofun)):=(fun v0 v1 => @slim.eq_9 v0 (Go.Code.goto v1) (by nofun) (by nofun) (by nofun) (by nofun) (by nofun) (by nofun) (by nofun) (by nofun))
theorem aP7:type_of% (fun v0 v1 => @slim.eq_9 v0 (Go.Code.refuse v1) (by nofun) (by nofun) (by nofun) (by nofun) (by nofun) (by nofun) (by nofun) (by nofun)):=(fun v0 v1 => @slim.eq_9 v0 (Go.Code.refuse v1) (by nofun) (by nofun) (by nofun) (by nofun) (by nofun) (by nofun) (by nofun) (by nofun))
theorem aPs:type_of% (@bU.eq_5 Go.Code.skip (by nofun) (by nofun) (by nofun) (by nofun)):=(@bU.eq_5 Go.Code.skip (by nofun) (by nofun) (by nofun) (by nofun))
theorem aPG:type_of% (fun v0 v1 v2 => @bU.eq_5 (Go.Code.region v0 v1 v2) (by nofun) (by nofun) (by nofun) (by nofun)):=(fun v0 v1 v2 => @bU.eq_5 (Go.Code.region v0 v1 v2) (by nofun) (by nofun) (by nofun) (by nofun))
theorem aOD:type_of% (fun v0 v1 v2 v3 => @bU.eq_5 (Go.Code.rangeFunc v0 v1 v2 v3) (by nofun) (by nofun) (by nofun) (by nofun)):=(fun v0 v1 v2 v3 => @bU.eq_5 (Go.Code.rangeFunc v0 v1 v2 v3) (by nofun) (by nofun) (by nofun) (by nofun))
theorem aP6:type_of% (fun v0 => @bU.eq_5 (Go.Code.exit v0) (by nofun) (by nofun) (by nofun) (by nofun)):=(fun v0 => @bU.eq_5 (Go.Code.exit v0) (by nofun) (by nofun) (by nofun) (by nofun))
theorem aJ7:type_of% (fun v0 => @bU.eq_5 (Go.Code.scope v0) (by nofun) (by nofun) (by nofun) (by nofun)):=(fun v0 => @bU.eq_5 (Go.Code.scope v0) (by nofun) (by nofun) (by nofun) (by nofun))
theorem aL6:type_of% (fun v0 => @bU.eq_5 (Go.Code.label v0) (by nofun) (by nofun) (by nofun) (by nofun)):=(fun v0 => @bU.eq_5 (Go.Code.label v0) (by nofun) (by nofun) (by nofun) (by nofun))
theorem aKn:type_of% (fun v0 => @bU.eq_5 (Go.Code.goto v0) (by nofun) (by nofun) (by nofun) (by nofun)):=(fun v0 => @bU.eq_5 (Go.Code.goto v0) (by nofun) (by nofun) (by nofun) (by nofun))
theorem aKi:type_of% (@bU.eq_5 Go.Code.ret (by nofun) (by nofun) (by nofun) (by nofun)):=(@bU.eq_5 Go.Code.ret (by nofun) (by nofun) (by nofun) (by nofun))
theorem aL8:type_of% (fun v0 => @bU.eq_5 (Go.Code.refuse v0) (by nofun) (by nofun) (by nofun) (by nofun)):=(fun v0 => @bU.eq_5 (Go.Code.refuse v0) (by nofun) (by nofun) (by nofun) (by nofun))
theorem SLM0:type_of% (AI @Option.getD_some.{0} (AI @List.length_nil.{0} (AI @Nat.add_zero (AI @Nat.zero_add (AI @List.map_cons.{0,0} (AI @List.map_nil.{0,0} (AI @List.getElem?_cons_zero.{0} (AI @List.getElem?_cons_succ.{0} (AI @Option.bind_some.{0,0} (AI @Bool.false_eq_true (AI @if_false.{0} (AI @if_true.{0} (AI @List.length_cons.{0} (AI @List.replicate.eq_1.{0} (AI @List.replicate.eq_2.{0} (AI @List.cons_append.{0} (AI @List.nil_append.{0} (AI @List.append_nil.{0} (AI @List.getD_cons_zero.{0} (AI @List.getD_cons_succ.{0} (AI @bP.eq_1 (AI @dT.eq_1 (AI @lpOf.eq_1 (AI @aY.eq_1 (AI @slim.eq_1 (AI @slim.eq_2 (AI @slim.eq_3 (AI @slim.eq_4 (AI @slim.eq_5 (AI @slim.eq_6 (AI @slim.eq_7 (AI @slim.eq_8 (AI @aP4 (AI @aPx (AI @aPO (AI @aO2 (AI @aP7 (AI @bU.eq_1 (AI @bU.eq_2 @bU.eq_3))))))))))))))))))))))))))))))))))))))) :=
 ⟨@Option.getD_some.{0},@List.length_nil.{0},@Nat.add_zero,@Nat.zero_add,@List.map_cons.{0,0},@List.map_nil.{0,0},@List.getElem?_cons_zero.{0},@List.getElem?_cons_succ.{0},@Option.bind_some.{0,0},@Bool.false_eq_true,@if_false.{0},@if_true.{0},@List.length_cons.{0},@List.replicate.eq_1.{0},@List.replicate.eq_2.{0},@List.cons_append.{0},@List.nil_append.{0},@List.append_nil.{0},@List.getD_cons_zero.{0},@List.getD_cons_succ.{0},@bP.eq_1,@dT.eq_1,@lpOf.eq_1,@aY.eq_1,@slim.eq_1,@slim.eq_2,@slim.eq_3,@slim.eq_4,@slim.eq_5,@slim.eq_6,@slim.eq_7,@slim.eq_8,@aP4,@aPx,@aPO,@aO2,@aP7,@bU.eq_1,@bU.eq_2,@bU.eq_3⟩
theorem SLM1:type_of% (AI @bU.eq_4 (AI @aPs (AI @aPG (AI @aOD (AI @aP6 (AI @aJ7 (AI @aL6 (AI @aKn (AI @aKi (AI @aL8 (AI @GK.eq_1 (AI @ME.eq_1 @ME.eq_2)))))))))))) :=
 ⟨@bU.eq_4,@aPs,@aPG,@aOD,@aP6,@aJ7,@aL6,@aKn,@aKi,@aL8,@GK.eq_1,@ME.eq_1,@ME.eq_2⟩
theorem SLM:type_of% (AI @SLM0 @SLM1) :=
 ⟨@SLM0,@SLM1⟩
theorem LN:type_of% (AI @List.length_append.{0} (AI @List.length_cons.{0} (AI @List.length_nil.{0} (AI @List.length_set.{0} (AI @List.length_replicate.{0} (AI @List.length_map.{0,0} (AI @List.length_take.{0} @List.length_drop.{0}))))))) :=
 ⟨@List.length_append.{0},@List.length_cons.{0},@List.length_nil.{0},@List.length_set.{0},@List.length_replicate.{0},@List.length_map.{0,0},@List.length_take.{0},@List.length_drop.{0}⟩
theorem GT:type_of% (AI @List.getElem?_cons_zero.{0} @List.getElem?_cons_succ.{0}) :=
 ⟨@List.getElem?_cons_zero.{0},@List.getElem?_cons_succ.{0}⟩
end Ev
end Go.Proofs.YtppdfjdfjfoddaaDoor
