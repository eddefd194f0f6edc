/-
  How each operation goes, in the form in which the evaluator is walked.
-/
import Derived.Test.YtejmccgfigiadaaGreatEvPrim
set_option linter.unusedSimpArgs false
set_option linter.unusedVariables false
namespace Go.Proofs.YtejmccgfigiadaaGreat
namespace Ev
section
variable {R:Type} {E:Env} {call:b7} {thaw:List Nat} {dst:Option Tmp} {s:List A} {h:H} {k:A → H → Option R}
structure Now (p:Prop):Prop where
 it:p
structure Shut (p:Prop):Prop where
 it:p
inductive Box (α:Type) where
 | mk (a:α)
 | no
def box {α:Type} (a:α):Box α:=.mk a
theorem aUT {α:Type} {a:α}:box a = .mk a:=rfl
theorem aSN {t:Nat} {q:A → Option R}:kv s (.tmp t) q = match box (s.getD t (.d .undef)) with | .no => none | .mk a => q a:=rfl
theorem aSL {K:IntKind} {n:Int} {q:A → Option R}:kv s (.const (.int K n)) q = q (.d (.int K n)):=rfl
theorem aQZ {b:Bool} {q:A → Option R}:kv s (.const (.bool b)) q = q (.d (.bool b)):=rfl
theorem aVO {b:ByteArray} {q:A → Option R}:kv s (.const (.string b)) q = match box b.data.toList with | .no => none | .mk l => q (.d (.str l)):=rfl
theorem aQB {q:A → Option R}:kv s (.const (.pointer none)) q = q (.d .nilp):=rfl
theorem aP6 {q:A → Option R}:kv s (.const (.slice none 0 0)) q = q (.d .nils):=rfl
theorem aQv {f:FuncId} {q:A → Option R}:kv s (.func f) q = q (.clo f []):=rfl
theorem aU4 {cs:Array Value} {q:A → Option R}:kv s (.const (.agg cs)) q = match DQ cs.toList with
  | some as => q (.agg as)
  | none => none:=by
 unfold kv; simp only [dN,RU]
 cases DQ cs.toList <;> rfl
theorem aP7 {q:List A → Option R}:kvs s [] q = q []:=rfl
theorem aOf {x:Operand} {xs:List Operand} {q:List A → Option R}:kvs s (x :: xs) q = kv s x fun a => kvs s xs fun as => q (a :: as):=by
 unfold kvs kv
 simp only [cE]
 cases dN s x with
 | none => rfl
 | some a => cases cE s xs <;> rfl
theorem aFJ {yes no:List A → Option R}:B6 none s yes no = yes s:=rfl
theorem aF7 {t:Nat} {w:Bool} {yes no:List A → Option R}:B6 (some (some t,w)) s yes no = match s.getD t .junk with
  | .d (.bool b) => if b = w then (match box (s.set t (.d (.bool w))) with | .no => none | .mk s => yes s) else (match box (s.set t (.d (.bool (!w)))) with | .no => none | .mk s => no s)
  | .d .undef => no s
  | _ => none:=by
 simp only [B6,List.getD_eq_getElem?_getD]
 cases s[t]? with
 | none => rfl
 | some a =>
  cases a with
  | d x => cases x <;> rfl
  | _ => rfl
theorem aNP {x:Operand}:kOp E call thaw dst (.move x) s h k = kv s x fun a => k a h:=by
 unfold kOp kvs kv
 simp only [opds,cE]
 cases dN s x <;> rfl
def kAsg (thaw:List Nat) (dst:Option Tmp) (h:H) (k:A → H → Option R) (a:A):Option R :=
 match a with
 | .d .nils => match GW thaw dst with
  | 0 => k (.d .nils) h
  | e + 1 => if e < 1000 then k (.sl h.length 0 0 0) (h ++ [.arr [] e 0]) else k (.sl h.length 0 0 0) (h ++ [.vec [] (e - 1000) 0])
 | a => k a h
theorem XY {t:Nat}:kOp E call thaw dst (.assign (.tmp t)) s h k = match box (s.getD t (.d .undef)) with | .no => none | .mk a => k a h:=by
 unfold kOp kvs
 simp only [opds,cE,dN,b5,Bool.false_eq_true,if_false]
 rfl
theorem RI {v:Value}:kOp E call thaw dst (.assign (.const v)) s h k = kv s (.const v) (kAsg thaw dst h k):=by
 unfold kOp kvs kv kAsg
 simp only [opds,cE]
 cases dN s (.const v) with
 | none => rfl
 | some a =>
  simp only [b5,Bool.false_eq_true,if_false,evOp,one,dR,m3]
  cases a with
  | d x =>
   cases x with
   | nils => cases ht:GW thaw dst with
    | zero => simp [ht]
    | succ e => by_cases he:e < 1000 <;> simp [ht,he]
   | _ => rfl
  | _ => rfl
theorem UZ {f:FuncId}:kOp E call thaw dst (.assign (.func f)) s h k = k (.clo f []) h:=by
 rfl
def kRet (r:Option (A × H)) (k:A → H → Option R):Option R :=
 match r with
 | some (a,h') => k a h'
 | none => none
theorem aQy {op:BinOp} {t:TypeId} {x y:Operand} {t2:TypeId}:kOp E call thaw dst (.binOp op t x y t2) s h k = kv s x fun a => kv s y fun b => kRet (cY E op t h a b) k:=by
 unfold kOp kvs kv kRet
 simp only [opds,cE]
 cases dN s x with
 | none => rfl
 | some a => cases dN s y <;> rfl
theorem aU0 {op:UnOp} {t:TypeId} {x:Operand}:kOp E call thaw dst (.unOp op t x) s h k = kv s x fun a => kRet ((aUn op a).map fun r => (r,h)) k:=by
 unfold kOp kvs kv kRet
 simp only [opds,cE]
 cases dN s x <;> rfl
theorem aO8 {c x y:Operand}:kOp E call thaw dst (.pick c x y) s h k = kv s c fun b => kv s x fun a => kv s y fun a' => kRet (X2 h [b,a,a']) k:=by
 unfold kOp kvs kv kRet
 simp only [opds,cE]
 cases dN s c with
 | none => rfl
 | some b => cases dN s x with
  | none => rfl
  | some a => cases dN s y <;> rfl
theorem aDP {x:Operand}:kOp E call thaw dst (.nilCheck x) s h k = kv s x fun a => kRet (lG h a) k:=by
 unfold kOp kvs kv kRet
 simp only [opds,cE]
 cases dN s x <;> rfl
theorem aO4 {t u:TypeId} {x:Operand}:kOp E call thaw dst (.convert t u x) s h k = kv s x fun a => kRet (eL E.P h t u a) k:=by
 unfold kOp kvs kv kRet
 simp only [opds,cE]
 cases dN s x <;> rfl
theorem aNE {t:TypeId} {x:Operand}:kOp E call thaw dst (.load t x) s h k = kv s x fun a => kRet ((LV E.P h t a).map fun v => (v,h)) k:=by
 unfold kOp kvs kv kRet
 simp only [opds,cE]
 cases dN s x <;> rfl
theorem aLu {t:TypeId} {x y:Operand}:kOp E call thaw dst (.store t x y) s h k = kv s x fun a => kv s y fun b => kRet ((oX E.P h t a b).map fun h' => (.d .undef,h')) k:=by
 unfold kOp kvs kv kRet
 simp only [opds,cE]
 cases dN s x with
 | none => rfl
 | some a => cases dN s y <;> rfl
theorem aMy {t:TypeId}:kOp E call thaw dst (.alloc t) s h k = match box (bW E.P t) with
  | .no => none
  | .mk none => none
  | .mk (some z) => kRet (aNew h z) k:=by
 unfold kOp kvs kRet
 simp only [opds,cE,b5,Bool.false_eq_true,if_false,evOp,m3,box]
 cases bW E.P t <;> rfl
theorem aQG {t:TypeId} {x:Operand}:kOp E call thaw dst (.box t x) s h k = kv s x fun a => kRet (aNew h a) k:=by
 unfold kOp kvs kv kRet
 simp only [opds,cE]
 cases dN s x <;> rfl
theorem aL0 {t:TypeId} {ps:List (Nat × Operand)}:kOp E call thaw dst (.build t ps.toArray) s h k = match box (ps.map (·.2)) with
  | .no => none
  | .mk xs => kvs s xs fun vs => kRet ((jO E.P t ((ps.map (·.1)).zip vs)).map fun a => (a,h)) k:=by
 unfold kOp kRet
 rfl
theorem XT {t:TypeId} {n:Nat} {ps:List (Nat × Operand)}:kOp E call thaw dst (.buildSlice t n ps.toArray) s h k = match box (ps.map (·.2)) with
  | .no => none
  | .mk xs => kvs s xs fun vs => kRet (if logs thaw dst = true then sD (qN E.P h t n ((ps.map (·.1)).zip vs)) else if keeps thaw dst = true then EI E.P h t n ((ps.map (·.1)).zip vs) else qN E.P h t n ((ps.map (·.1)).zip vs)) k:=by
 unfold kOp kRet
 rfl
theorem aCw {fn:Fn} {cap:List Operand}:kOp E call thaw dst (.makeFunc fn #[] cap.toArray) s h k = kvs s cap fun vs => kRet (X3 h fn true vs) k:=by
 unfold kOp kRet
 rfl
theorem aBz {t:TypeId} {x y:Operand}:kOp E call thaw dst (.makeSlice t x y) s h k = kv s x fun a => kv s y fun b => kRet (nA a fun l => nA b fun c => if keeps thaw dst = true then D6 E.P h t l c else kP E.P h t l c) k:=by
 unfold kOp kvs kv kRet
 simp only [opds,cE]
 cases dN s x with
 | none => rfl
 | some a => cases dN s y <;> rfl
theorem aFz {t:TypeId} {x:Operand}:kOp E call thaw dst (.slice t x none none none) s h k = kvs s [x] fun vs => kRet (m9 E.P h t false false vs) k:=rfl
theorem aFw {t:TypeId} {x lo:Operand}:kOp E call thaw dst (.slice t x (some lo) none none) s h k = kvs s [x,lo] fun vs => kRet (m9 E.P h t true false vs) k:=rfl
theorem aFv {t:TypeId} {x hi:Operand}:kOp E call thaw dst (.slice t x none (some hi) none) s h k = kvs s [x,hi] fun vs => kRet (m9 E.P h t false true vs) k:=rfl
theorem aFZ {t:TypeId} {x lo hi:Operand}:kOp E call thaw dst (.slice t x (some lo) (some hi) none) s h k = kvs s [x,lo,hi] fun vs => kRet (m9 E.P h t true true vs) k:=rfl
theorem aB1 {t:TypeId} {x:Operand} {f:Nat}:kOp E call thaw dst (.fieldAddr t x f) s h k = kv s x fun a => kRet ((bF E.P t f).bind fun r => (AW r.1 a).map fun r => (r,h)) k:=by
 unfold kOp kvs kv kRet
 simp only [opds,cE]
 cases dN s x <;> rfl
theorem aK0 {t:TypeId} {x:Operand} {f:Nat}:kOp E call thaw dst (.field t x f) s h k = kv s x fun a => kRet (QY E.P h t f a) k:=by
 unfold kOp kvs kv kRet
 simp only [opds,cE]
 cases dN s x <;> rfl
theorem aBQ {t:TypeId} {x y:Operand}:kOp E call thaw dst (.indexAddr t x y) s h k = kv s x fun a => kv s y fun b => kRet (nA b fun i => (wV E.P h t a i).map fun r => (r,h)) k:=by
 unfold kOp kvs kv kRet
 simp only [opds,cE]
 cases dN s x with
 | none => rfl
 | some a => cases dN s y <;> rfl
theorem aLX {t:TypeId} {x y:Operand}:kOp E call thaw dst (.index t x y) s h k = kv s x fun a => kv s y fun b => kRet (nA b fun i => (aAc E.P t a i).map fun r => (r,h)) k:=by
 unfold kOp kvs kv kRet
 simp only [opds,cE]
 cases dN s x with
 | none => rfl
 | some a => cases dN s y <;> rfl
theorem aF8 {t:TypeId}:kOp E call thaw dst (.makeMap t none) s h k = k (.mp h.length) (h ++ [.mp []]):=rfl
theorem aJW {t:TypeId} {x y:Operand} {ok:Bool}:kOp E call thaw dst (.lookup t x y ok) s h k = kv s x fun a => kv s y fun b => kRet (YC E.P h t ok a b) k:=by
 unfold kOp kvs kv kRet
 simp only [opds,cE]
 cases dN s x with
 | none => rfl
 | some a => cases dN s y <;> rfl
theorem aB3 {t:TypeId} {x y z:Operand}:kOp E call thaw dst (.mapUpdate t x y z) s h k = kv s x fun a => kv s y fun b => kv s z fun c => kRet (wQ E.P h t a b c) k:=by
 unfold kOp kvs kv kRet
 simp only [opds,cE]
 cases dN s x with
 | none => rfl
 | some a => cases dN s y with
  | none => rfl
  | some b => cases dN s z <;> rfl
theorem aGj {x:Operand} {i:Nat}:kOp E call thaw dst (.extract x i) s h k = kv s x fun a => kRet (E4 h i a) k:=by
 unfold kOp kvs kv kRet
 simp only [opds,cE]
 cases dN s x <;> rfl
theorem aGd {b:Builtin} {args:List Operand} {tys:List TypeId}:kOp E call thaw dst (.call ⟨.builtin b,args.toArray,tys.toArray⟩) s h k = kvs s args fun vs => kRet (dE E.P h b tys vs) k:=by
 unfold kOp kRet
 rfl
theorem eH {op:Op} {q:A → H → Foot → Option R} (hp:Now (cX op = true ∧ b5 op = false)):kOpD E call thaw dst op s h q = kOp E call thaw dst op s h fun a _ => q a h {}:=by
 obtain ⟨hp,hc⟩:=hp.it
 unfold kOpD kOp kvs
 rw [hp,hc]
 cases cE s (opds op) with
 | none => rfl
 | some vs =>
  simp only [if_true,Bool.false_eq_true,if_false]
def memD (E:Env) (call:b7) (thaw:List Nat) (dst:Option Tmp) (op:Op) (h:H) (vs:List A):Option (A × H × Foot):=match box (aE aK h (idsL vs) []) with
 | .no => none
 | .mk ord => match box (evOp E call thaw (pack h ord) (m3 dst op) (aW (aN ord) vs)) with
  | .mk (some (a,h1)) => if ord.length ≤ h1.length ∧ closed h ord (idsL vs) = true then
    (if (gI E op vs && h1.length - ord.length == 0) = true then some (mapA (back ord h.length h1.length) a,h,{ ids:=ord,ro:=true })
    else some (mapA (back ord h.length h1.length) a,b9 (back ord h.length h1.length) h ord h1,{ ids:=ord ++ List.range' h.length (h1.length - ord.length),ro:=false,wr:=wrOf E op vs ord ++ List.range' h.length (h1.length - ord.length) }))
   else none
  | _ => none
theorem gO {op:Op} {q:A → H → Foot → Option R} (hp:Now (cX op = false ∧ qP op = false)):kOpD E call thaw dst op s h q = match box (opds op) with | .no => none | .mk xs => kvs s xs fun vs => match box (memD E call thaw dst op h vs) with
  | .mk (some (a,h',c)) => q a h' c
  | _ => none:=by
 simp only [box]
 unfold kOpD kvs
 rw [hp.it.1,hp.it.2]
 cases cE s (opds op) with
 | none => rfl
 | some vs =>
  simp only [Bool.false_eq_true,if_false,rW,memD,box]
  cases evOp E call thaw (pack h (aE aK h (idsL vs) [])) (m3 dst op) (aW (aN (aE aK h (idsL vs) [])) vs) with
  | none => rfl
  | some r =>
   obtain ⟨a,h1⟩:=r
   by_cases hc:(aE aK h (idsL vs) []).length ≤ h1.length ∧ closed h (aE aK h (idsL vs) []) (idsL vs) = true
   ·simp only [if_pos hc]
    by_cases hr:(gI E op vs && h1.length - (aE aK h (idsL vs) []).length == 0) = true
    ·simp only [if_pos hr]
    ·simp only [if_neg hr]
   ·simp only [if_neg hc]
theorem NM {op:Op} {q:A → H → Foot → Option R} (hp:Now (cX op = false ∧ qP op = true ∧ b5 op = false)):kOpD E call thaw dst op s h q = kvs s (opds op) fun vs => kOp E call thaw dst op s h fun a _ => q a h { ids:=ids0 vs,ro:=true }:=by
 unfold kOpD kOp kvs
 rw [hp.it.1,hp.it.2.1,hp.it.2.2]
 cases cE s (opds op) with
 | none => rfl
 | some vs => simp only [Bool.false_eq_true,if_false,if_true]
theorem ST {x:Operand} {xs:List Operand} {op:Op} {q:A → H → Foot → Option R} (hx:opds op = x :: xs):(kvs s (opds op) fun vs => kOp E call thaw dst op s h fun a _ => q a h { ids:=ids0 vs,ro:=true }) = kv s x fun b => kOp E call thaw dst op s h fun a _ => q a h { ids:=idsA b,ro:=true }:=by
 unfold kOp kv
 rw [hx]
 unfold kvs
 simp only [cE]
 cases dN s x with
 | none => rfl
 | some b =>
  cases cE s xs with
  | none => rfl
  | some bs => rfl
theorem aLK {t:TypeId} {x:Operand} {q:A → H → Foot → Option R}:kOpD E call thaw dst (.load t x) s h q = kv s x fun b => kOp E call thaw dst (.load t x) s h fun a _ => q a h { ids:=idsA b,ro:=true }:=(NM ⟨rfl,rfl,rfl⟩).trans (ST rfl)
theorem aFG {t:TypeId} {x y:Operand} {ok:Bool} {q:A → H → Foot → Option R}:kOpD E call thaw dst (.lookup t x y ok) s h q = kv s x fun b => kOp E call thaw dst (.lookup t x y ok) s h fun a _ => q a h { ids:=idsA b,ro:=true }:=(NM ⟨rfl,rfl,rfl⟩).trans (ST rfl)
theorem aDc {t:TypeId} {q:A → H → Foot → Option R}:type_of% (gO (E:=E) (call:=call) (thaw:=thaw) (dst:=dst) (s:=s) (h:=h) (op:=.makeMap t none) (q:=q) ⟨rfl,rfl⟩):=gO ⟨rfl,rfl⟩
theorem ZE {t:TypeId} {x y z:Operand} {q:A → H → Foot → Option R}:type_of% (gO (E:=E) (call:=call) (thaw:=thaw) (dst:=dst) (s:=s) (h:=h) (op:=.mapUpdate t x y z) (q:=q) ⟨rfl,rfl⟩):=gO ⟨rfl,rfl⟩
theorem aIt {t:TypeId} {x y:Operand} {q:A → H → Foot → Option R}:type_of% (gO (E:=E) (call:=call) (thaw:=thaw) (dst:=dst) (s:=s) (h:=h) (op:=.store t x y) (q:=q) ⟨rfl,rfl⟩):=gO ⟨rfl,rfl⟩
theorem aFH {x:Operand} {q:A → H → Foot → Option R}:type_of% (gO (E:=E) (call:=call) (thaw:=thaw) (dst:=dst) (s:=s) (h:=h) (op:=.assign x) (q:=q) ⟨rfl,rfl⟩):=gO ⟨rfl,rfl⟩
theorem aJG {t:TypeId} {q:A → H → Foot → Option R}:type_of% (gO (E:=E) (call:=call) (thaw:=thaw) (dst:=dst) (s:=s) (h:=h) (op:=.alloc t) (q:=q) ⟨rfl,rfl⟩):=gO ⟨rfl,rfl⟩
theorem aPb {t:TypeId} {x:Operand} {q:A → H → Foot → Option R}:type_of% (gO (E:=E) (call:=call) (thaw:=thaw) (dst:=dst) (s:=s) (h:=h) (op:=.box t x) (q:=q) ⟨rfl,rfl⟩):=gO ⟨rfl,rfl⟩
theorem T4 {t:TypeId} {n:Nat} {ps:List (Nat × Operand)} {q:A → H → Foot → Option R}:type_of% (gO (E:=E) (call:=call) (thaw:=thaw) (dst:=dst) (s:=s) (h:=h) (op:=.buildSlice t n ps.toArray) (q:=q) ⟨rfl,rfl⟩):=gO ⟨rfl,rfl⟩
theorem aME {t u:TypeId} {x:Operand} {q:A → H → Foot → Option R}:type_of% (gO (E:=E) (call:=call) (thaw:=thaw) (dst:=dst) (s:=s) (h:=h) (op:=.convert t u x) (q:=q) ⟨rfl,rfl⟩):=gO ⟨rfl,rfl⟩
theorem ZV {t:TypeId} {x y:Operand} {q:A → H → Foot → Option R}:type_of% (gO (E:=E) (call:=call) (thaw:=thaw) (dst:=dst) (s:=s) (h:=h) (op:=.makeSlice t x y) (q:=q) ⟨rfl,rfl⟩):=gO ⟨rfl,rfl⟩
theorem aHW {t:TypeId} {x:Operand} {lo hi mx:Option Operand} {q:A → H → Foot → Option R}:kOpD E call thaw dst (.slice t x lo hi mx) s h q = kv s x fun b => kOp E call thaw dst (.slice t x lo hi mx) s h fun a _ => q a h { ids:=idsA b,ro:=true }:=(NM ⟨rfl,rfl,rfl⟩).trans (ST rfl)
theorem YZ {t:TypeId} {x y:Operand} {q:A → H → Foot → Option R}:kOpD E call thaw dst (.indexAddr t x y) s h q = kv s x fun b => kOp E call thaw dst (.indexAddr t x y) s h fun a _ => q a h { ids:=idsA b,ro:=true }:=(NM ⟨rfl,rfl,rfl⟩).trans (ST rfl)
theorem aFf {args tys:Array _} {q:A → H → Foot → Option R}:type_of% (gO (E:=E) (call:=call) (thaw:=thaw) (dst:=dst) (s:=s) (h:=h) (op:=.call ⟨.builtin .append,args,tys⟩) (q:=q) ⟨rfl,rfl⟩):=gO ⟨rfl,rfl⟩
theorem aOa {x:Operand} {xs:List Operand} {tys:Array _} {q:A → H → Foot → Option R}:kOpD E call thaw dst (.call ⟨.builtin .len,(x :: xs).toArray,tys⟩) s h q = kv s x fun b => kOp E call thaw dst (.call ⟨.builtin .len,(x :: xs).toArray,tys⟩) s h fun a _ => q a h { ids:=idsA b,ro:=true }:=(NM ⟨rfl,rfl,rfl⟩).trans (ST rfl)
theorem aLs {x:Operand} {q:A → H → Foot → Option R}:type_of% (eH (E:=E) (call:=call) (thaw:=thaw) (dst:=dst) (s:=s) (h:=h) (op:=.move x) (q:=q) ⟨rfl,rfl⟩):=eH ⟨rfl,rfl⟩
theorem aLv {c x y:Operand} {q:A → H → Foot → Option R}:type_of% (eH (E:=E) (call:=call) (thaw:=thaw) (dst:=dst) (s:=s) (h:=h) (op:=.pick c x y) (q:=q) ⟨rfl,rfl⟩):=eH ⟨rfl,rfl⟩
theorem aBG {x:Operand} {q:A → H → Foot → Option R}:type_of% (eH (E:=E) (call:=call) (thaw:=thaw) (dst:=dst) (s:=s) (h:=h) (op:=.nilCheck x) (q:=q) ⟨rfl,rfl⟩):=eH ⟨rfl,rfl⟩
theorem aPh {op:BinOp} {t:TypeId} {x y:Operand} {t2:TypeId} {q:A → H → Foot → Option R}:type_of% (eH (E:=E) (call:=call) (thaw:=thaw) (dst:=dst) (s:=s) (h:=h) (op:=.binOp op t x y t2) (q:=q) ⟨rfl,rfl⟩):=eH ⟨rfl,rfl⟩
theorem aQr {op:UnOp} {t:TypeId} {x:Operand} {q:A → H → Foot → Option R}:type_of% (eH (E:=E) (call:=call) (thaw:=thaw) (dst:=dst) (s:=s) (h:=h) (op:=.unOp op t x) (q:=q) ⟨rfl,rfl⟩):=eH ⟨rfl,rfl⟩
theorem aBr {fn:Fn} {first cap:Array Operand} {q:A → H → Foot → Option R}:type_of% (eH (E:=E) (call:=call) (thaw:=thaw) (dst:=dst) (s:=s) (h:=h) (op:=.makeFunc fn first cap) (q:=q) ⟨rfl,rfl⟩):=eH ⟨rfl,rfl⟩
theorem YS {t:TypeId} {x:Operand} {f:Nat} {q:A → H → Foot → Option R}:type_of% (eH (E:=E) (call:=call) (thaw:=thaw) (dst:=dst) (s:=s) (h:=h) (op:=.fieldAddr t x f) (q:=q) ⟨rfl,rfl⟩):=eH ⟨rfl,rfl⟩
theorem aI0 {t:TypeId} {x:Operand} {f:Nat} {q:A → H → Foot → Option R}:type_of% (eH (E:=E) (call:=call) (thaw:=thaw) (dst:=dst) (s:=s) (h:=h) (op:=.field t x f) (q:=q) ⟨rfl,rfl⟩):=eH ⟨rfl,rfl⟩
theorem aHJ {t:TypeId} {x y:Operand} {q:A → H → Foot → Option R}:type_of% (eH (E:=E) (call:=call) (thaw:=thaw) (dst:=dst) (s:=s) (h:=h) (op:=.index t x y) (q:=q) ⟨rfl,rfl⟩):=eH ⟨rfl,rfl⟩
theorem aEi {x:Operand} {i:Nat} {q:A → H → Foot → Option R}:type_of% (eH (E:=E) (call:=call) (thaw:=thaw) (dst:=dst) (s:=s) (h:=h) (op:=.extract x i) (q:=q) ⟨rfl,rfl⟩):=eH ⟨rfl,rfl⟩
theorem aHT {t:TypeId} {ps:Array (Nat × Operand)} {q:A → H → Foot → Option R}:type_of% (eH (E:=E) (call:=call) (thaw:=thaw) (dst:=dst) (s:=s) (h:=h) (op:=.build t ps) (q:=q) ⟨rfl,rfl⟩):=eH ⟨rfl,rfl⟩
def aNI (a b:Foot):Bool:=(!a.ro && (!b.ids.isEmpty && a.wr.any b.ids.contains)) || (!b.ro && (!a.ids.isEmpty && b.wr.any a.ids.contains))
theorem aLB (a b:Foot):aNI a b = iM a b:=by
 obtain ⟨ia,ra,wa⟩:=a
 obtain ⟨ib,rb,wb⟩:=b
 unfold aNI iM
 cases ia <;> cases ib <;> simp
def sW (ops:List Oper) (cs:List Foot):Bool :=
 let b:=F1 ops []
 (List.range cs.length).all fun j => (List.range j).all fun i => (b.getD j 0).testBit i || !aNI (cs.getD i {}) (cs.getD j {})
theorem aEu {src:List Oper} {cs:List Foot} (h:qO src cs = true):sW src cs = true:=by
 unfold sW
 simp only [aLB]
 exact h
theorem aIP {src:List Oper} {cs:List Foot} {x:Option R} (hc:Shut (sW src cs = true)):(if qO src cs = true then x else none) = x:=if_pos (by
 have:=hc.it
 unfold sW at this
 simp only [aLB] at this
 exact this)
theorem aNF {q:List A → H → Option R}:kOps E call thaw [] s h q = q s h:=rfl
theorem aLq {op:Op} {g:Option (Option Tmp × Bool)} {os:List SO} {q:List A → H → Option R}:kOps E call thaw (⟨dst,op,g⟩ :: os) s h q = B6 g s
  (fun s => kOp E call thaw dst op s h fun a h' => match box (aPut s dst a) with | .no => none | .mk s' => kOps E call thaw os s' h' q)
  (fun s => match box (aPut s dst (.d .undef)) with | .no => none | .mk s' => kOps E call thaw os s' h q):=rfl
theorem aK8 {cs:List Foot} {q:List A → H → List Foot → Option R}:C9 E call thaw [] s h cs q = q s h cs:=rfl
theorem aHB {op:Op} {g:Option (Option Tmp × Bool)} {os:List SO} {cs:List Foot} {q:List A → H → List Foot → Option R}:C9 E call thaw (⟨dst,op,g⟩ :: os) s h cs q = B6 g s
  (fun s => kOpD E call thaw dst op s h fun a h' c => match box (aPut s dst a) with | .no => none | .mk s' => C9 E call thaw os s' h' (cs ++ [c]) q)
  (fun s => match box (aPut s dst (.d .undef)) with | .no => none | .mk s' => C9 E call thaw os s' h (cs ++ [{}]) q):=rfl
section
variable {L nf:Nat} {live:List Bool} {lp:Nat → Code} {q:Exit → List A → H → Option R}
theorem aI9:aD E call L nf thaw live lp .skip s h q = q .normal s h:=rfl
theorem aMw {l:List SO}:aD E call L nf thaw live lp (.ops l) s h q = kOps E call thaw l s h fun s h => q .normal s h:=rfl
theorem aFL {l:List SO} {src:Array Oper}:aD E call L nf thaw live lp (.drawn l src) s h q = C9 E call thaw l s h [] fun s h cs => if qO src.toList cs = true then q .normal s h else none:=rfl
theorem aLU {a b:SC}:aD E call L nf thaw live lp (.seq a b) s h q = aD E call L nf thaw live lp a s h fun e s h => match e with
  | .normal => aD E call L nf thaw live lp b s h q
  | e => q e s h:=rfl
theorem aIy {c:Operand} {x y:SC}:aD E call L nf thaw live lp (.cond c x y) s h q = kv s c fun a => match a with
  | .d (.bool b) => if b = true then aD E call L nf thaw live lp x s h q else aD E call L nf thaw live lp y s h q
  | _ => none:=rfl
theorem aFo {id:Nat} {c:SC}:aD E call L nf thaw live lp (.block id c) s h q = aD E call L nf thaw live lp c s h fun e s h => match e with
  | .exit i => if i = id then q .normal s h else q (.exit i) s h
  | e => q e s h:=rfl
theorem aID {i:Nat}:aD E call L nf thaw live lp (.loop i) s h q = match box (tW live s) with
  | .no => none
  | .mk m => match box (gc nf m s h) with
   | .mk (s',h') => aF E call L nf thaw live (lp i) m L s' h' q
   | .no => none:=rfl
theorem aIB {id:Nat}:aD E call L nf thaw live lp (.exit id) s h q = q (.exit id) s h:=rfl
theorem aL3:aD E call L nf thaw live lp .ret s h q = q .ret s h:=rfl
theorem aDo {c:Code} {m:List Bool} {n:Nat}:bK E call L nf thaw live c m n q .normal s h = match box (gc nf m s h) with
  | .mk (s',h') => aF E call L nf thaw live c m n s' h' q
  | .no => none:=rfl
theorem aIR {c:Code} {m:List Bool} {n i:Nat}:bK E call L nf thaw live c m n q (.exit i) s h = match box (gc nf m s h) with
  | .mk (s',h') => q (.exit i) s' h'
  | .no => none:=rfl
theorem aMo {c:Code} {m:List Bool} {n:Nat}:bK E call L nf thaw live c m n q .ret s h = match box (gc nf m s h) with
  | .mk (s',h') => q .ret s' h'
  | .no => none:=rfl
end
def bC (E:Env) (call:b7) (h:H) (f:FuncId) (args:List A) (k:A → H → Option R):Option R :=
 match eO call E.hint (pack h (aE aK h (idsL args) [])) f (aW (aN (aE aK h (idsL args) [])) args) with
 | some (a,h1) =>
  if (aE aK h (idsL args) []).length ≤ h1.length ∧ closed h (aE aK h (idsL args) []) (idsL args) = true then
   k (mapA (back (aE aK h (idsL args) []) h.length h1.length) a) (b9 (back (aE aK h (idsL args) []) h.length h1.length) h (aE aK h (idsL args) []) h1)
  else none
 | none => none
theorem aW0 {f:FuncId} {args:List Operand} {tys:Array TypeId}:kOp E call thaw dst (.call ⟨.value (.func f),args.toArray,tys⟩) s h k = kvs s args fun vs => bC E call h f vs k:=by
 unfold kOp kvs bC
 simp only [opds,cE,dN]
 cases cE s args with
 | none => rfl
 | some vs =>
  simp only [b5,if_true,rW,idsL,idsA,List.nil_append,aW,mapA,evOp,j7,m7,m3,List.append_nil]
  cases eO call E.hint (pack h (aE aK h (idsL vs) [])) f (aW (aN (aE aK h (idsL vs) [])) vs) with
  | none => rfl
  | some r =>
   obtain ⟨a,h1⟩:=r
   by_cases c1:(aE aK h (idsL vs) []).length ≤ h1.length <;> by_cases c2:closed h (aE aK h (idsL vs) []) (idsL vs) = true <;> simp [c1,c2]
theorem aLg {f:FuncId} {args:List Operand} {tys:Array TypeId}:kOp E call thaw dst (.call ⟨.value (.func f),args.toArray,tys⟩) s h k = kvs s args fun vs => bC E call h f vs fun a h' => match box h' with | .no => none | .mk h'' => k a h'':=by
 rw [aW0]
 rfl
def IC (E:Env) (call:b7) (h:H) (f:FuncId) (caps args:List A) (k:A → H → Option R):Option R :=
 match eO call E.hint (pack h (aE aK h (idsL caps ++ idsL args) [])) f (aW (aN (aE aK h (idsL caps ++ idsL args) [])) args ++ aW (aN (aE aK h (idsL caps ++ idsL args) [])) caps) with
 | some (a,h1) =>
  if (aE aK h (idsL caps ++ idsL args) []).length ≤ h1.length ∧ closed h (aE aK h (idsL caps ++ idsL args) []) (idsL caps ++ idsL args) = true then
   k (mapA (back (aE aK h (idsL caps ++ idsL args) []) h.length h1.length) a) (b9 (back (aE aK h (idsL caps ++ idsL args) []) h.length h1.length) h (aE aK h (idsL caps ++ idsL args) []) h1)
  else none
 | none => none
def uL (E:Env) (call:b7) (h:H) (g:A) (args:List A) (k:A → H → Option R):Option R :=
 match g with
 | .d (.fn f caps) => bC E call h f (args ++ caps.map .d) k
 | .clo f caps => IC E call h f caps args k
 | _ => none
theorem y2:∀ (as bs:List A),idsL (as ++ bs) = idsL as ++ idsL bs
 | [],bs => by simp [idsL]
 | a :: as,bs => by simp [idsL,y2 as bs]
theorem aPf:∀ (ds:List D),idsL (ds.map .d) = []
 | [] => by simp [idsL]
 | d :: ds => by simp [idsL,idsA,aPf ds]
theorem NT {f:Nat → Option Nat}:∀ (as bs:List A),aW f (as ++ bs) = aW f as ++ aW f bs
 | [],bs => by simp [aW]
 | a :: as,bs => by simp [aW,NT as bs]
theorem aKa {f:Nat → Option Nat}:∀ (ds:List D),aW f (ds.map .d) = ds.map .d
 | [] => by simp [aW]
 | d :: ds => by simp [aW,mapA,aKa ds]
theorem aSu {g:A} {vs:List A} {tys:Array TypeId} {x:Operand} {args:Array Operand}:(match rW E call thaw h (m3 dst (.call ⟨.value x,args,tys⟩)) (g :: vs) with
   | some (a,h',_) => k a h'
   | none => none) = uL E call h g vs k:=by
 unfold rW
 simp only [evOp,j7,m3,aW]
 cases g with
 | d y =>
  cases y with
  | fn f caps =>
   simp only [uL,bC,mapA,m7,idsL,idsA,List.nil_append,y2,aPf,List.append_nil,NT,aKa]
   cases eO call E.hint (pack h (aE aK h (idsL vs) [])) f (aW (aN (aE aK h (idsL vs) [])) vs ++ caps.map .d) with
   | none => rfl
   | some r =>
    obtain ⟨a,h1⟩:=r
    by_cases c1:(aE aK h (idsL vs) []).length ≤ h1.length <;> by_cases c2:closed h (aE aK h (idsL vs) []) (idsL vs) = true <;> simp [c1,c2]
  | _ => simp only [uL,mapA,m7]
 | clo f caps =>
  simp only [uL,IC,mapA,m7,idsL,idsA]
  cases eO call E.hint (pack h (aE aK h (idsL caps ++ idsL vs) [])) f (aW (aN (aE aK h (idsL caps ++ idsL vs) [])) vs ++ aW (aN (aE aK h (idsL caps ++ idsL vs) [])) caps) with
  | none => rfl
  | some r =>
   obtain ⟨a,h1⟩:=r
   by_cases c1:(aE aK h (idsL caps ++ idsL vs) []).length ≤ h1.length <;> by_cases c2:closed h (aE aK h (idsL caps ++ idsL vs) []) (idsL caps ++ idsL vs) = true <;> simp [c1,c2]
 | sl id gen off len =>
  simp only [uL,mapA]
  cases aN (aE aK h (idsL (A.sl id gen off len :: vs)) []) id <;> rfl
 | ptr id gen off =>
  simp only [uL,mapA]
  cases aN (aE aK h (idsL (A.ptr id gen off :: vs)) []) id <;> rfl
 | mp id =>
  simp only [uL,mapA]
  cases aN (aE aK h (idsL (A.mp id :: vs)) []) id <;> rfl
 | agg cs => simp only [uL,mapA,m7]
 | tup cs => simp only [uL,mapA,m7]
 | junk => simp only [uL,mapA,m7]
theorem aKQ {t:Nat} {args:List Operand} {tys:Array TypeId}:kOp E call thaw dst (.call ⟨.value (.tmp t),args.toArray,tys⟩) s h k = match box (s.getD t (.d .undef)) with
  | .no => none
  | .mk g => kvs s args fun vs => uL E call h g vs k:=by
 unfold kOp kvs
 simp only [opds,cE,dN,box]
 cases cE s args with
 | none => rfl
 | some vs => simp only [b5,if_true]; exact aSu
theorem aLQ {f:FuncId} {caps:List D} {vs:List A}:uL E call h (.d (.fn f caps)) vs k = match box (vs ++ caps.map .d) with | .no => none | .mk as' => bC E call h f as' k:=rfl
theorem aIl {f:FuncId} {caps vs:List A}:uL E call h (.clo f caps) vs k = IC E call h f caps vs k:=rfl
theorem aHY {f:FuncId} {vs:List A}:IC E call h f [] vs k = bC E call h f vs k:=by
 unfold IC bC
 simp only [idsL,List.nil_append,aW,List.append_nil]
 rfl
theorem aG5 {h:H} {ids:List Nat} {h1:H} {ord:List Nat}:∀ (ord:List Nat) (h h1:H) (f:Nat → Option Nat),ord.length ≤ h1.length → (b9 f h ord h1).length = h.length + (h1.length - ord.length)
 | [],h,h1,f,_ => by simp [b9]
 | i :: ord,h,[],f,hl => by simp at hl
 | i :: ord,h,o :: h1,f,hl => by
  simp only [b9,aG5 (h:=h) (ids:=ids) (h1:=h1) (ord:=ord) ord _ h1 f (by simpa using hl),List.length_set,List.length_cons]
  omega
def wrC (E:Env) (f:FuncId) (ord:List Nat):List Nat:=if (E.hint f).mode == 3 then [] else ord
def qI (E:Env) (f:FuncId) (h h':H) (ord:List Nat):Option (H × Foot):=if ((E.hint f).mode == 1 && h'.length - h.length == 0) = true then some (h,{ ids:=ord,ro:=true }) else some (h',{ ids:=ord ++ List.range' h.length (h'.length - h.length),ro:=false,wr:=wrC E f ord ++ List.range' h.length (h'.length - h.length) })
theorem aRs {f:FuncId} {args:List Operand} {tys:Array TypeId} {q:A → H → Foot → Option R}:kOpD E call thaw dst (.call ⟨.value (.func f),args.toArray,tys⟩) s h q = kvs s args fun vs => match box (aE aK h (idsL vs) []) with
  | .no => none
  | .mk ord => bC E call h f vs fun a h' => if ((E.hint f).mode == 1 && h'.length - h.length == 0) = true then q a h { ids:=ord,ro:=true } else q a h' { ids:=ord ++ List.range' h.length (h'.length - h.length),ro:=false,wr:=wrC E f ord ++ List.range' h.length (h'.length - h.length) }:=by
 unfold kOpD kvs bC
 simp only [opds,cE,dN,box]
 cases cE s args with
 | none => rfl
 | some vs =>
  simp only [cX,qP,Bool.false_eq_true,if_false,rW,idsL,idsA,List.nil_append,aW,mapA,evOp,j7,m7,m3,List.append_nil,gI]
  cases eO call E.hint (pack h (aE aK h (idsL vs) [])) f (aW (aN (aE aK h (idsL vs) [])) vs) with
  | none => rfl
  | some r =>
   obtain ⟨a,h1⟩:=r
   by_cases c1:(aE aK h (idsL vs) []).length ≤ h1.length
   ·by_cases c2:closed h (aE aK h (idsL vs) []) (idsL vs) = true
    ·have e:=aG5 (h:=h) (ids:=idsL vs) (h1:=h1) (ord:=[]) (aE aK h (idsL vs) []) h h1 (back (aE aK h (idsL vs) []) h.length h1.length) c1
     have e2:(b9 (back (aE aK h (idsL vs) []) h.length h1.length) h (aE aK h (idsL vs) []) h1).length - h.length = h1.length - (aE aK h (idsL vs) []).length:=by omega
     simp only [c1,c2,and_self,if_true,e2]
     first | done | rfl | (by_cases c3:((E.hint f).mode == 1 && h1.length - (aE aK h (idsL vs) []).length == 0) = true <;> simp [c3])
    ·simp only [c2,and_false,if_false,Bool.false_eq_true]
   ·simp only [c1,false_and,if_false]
theorem aD8 {f:FuncId} {args:List Operand} {tys:Array TypeId} {q:A → H → Foot → Option R}:kOpD E call thaw dst (.call ⟨.value (.func f),args.toArray,tys⟩) s h q = kvs s args fun vs => match box (aE aK h (idsL vs) []) with
  | .no => none
  | .mk ord => bC E call h f vs fun a h' => match box (qI E f h h' ord) with | .mk (some (h'',c)) => q a h'' c | _ => none:=by
 rw [aRs]
 congr 1
 funext vs
 simp only [box]
 congr 1
 funext a h'
 unfold qI
 by_cases hc:((E.hint f).mode == 1 && h'.length - h.length == 0) = true
 ·simp only [if_pos hc]
 ·simp only [if_neg hc]
theorem aPC {t:Nat} {args:List Operand} {tys:Array TypeId} {q:A → H → Foot → Option R} {f:FuncId} {caps:List D} (hg:Now (s.getD t (.d .undef) = .d (.fn f caps))):kOpD E call thaw dst (.call ⟨.value (.tmp t),args.toArray,tys⟩) s h q = kvs s args fun vs => match box (aE aK h (idsL vs) []) with
  | .no => none
  | .mk ord => bC E call h f (vs ++ caps.map .d) fun a h' => if ((E.hint f).mode == 1 && h'.length - h.length == 0) = true then q a h { ids:=ord,ro:=true } else q a h' { ids:=ord ++ List.range' h.length (h'.length - h.length),ro:=false,wr:=wrC E f ord ++ List.range' h.length (h'.length - h.length) }:=by
 have hg:=hg.it
 unfold kOpD kvs bC
 simp only [opds,cE,dN,box,hg]
 cases cE s args with
 | none => rfl
 | some vs =>
  simp only [cX,qP,Bool.false_eq_true,if_false,rW,idsL,idsA,List.nil_append,aW,mapA,evOp,j7,m7,m3,List.append_nil,gI,y2,aPf,NT,aKa]
  cases eO call E.hint (pack h (aE aK h (idsL vs) [])) f (aW (aN (aE aK h (idsL vs) [])) vs ++ caps.map .d) with
  | none => rfl
  | some r =>
   obtain ⟨a,h1⟩:=r
   by_cases c1:(aE aK h (idsL vs) []).length ≤ h1.length
   ·by_cases c2:closed h (aE aK h (idsL vs) []) (idsL vs) = true
    ·have e:=aG5 (h:=h) (ids:=idsL vs) (h1:=h1) (ord:=[]) (aE aK h (idsL vs) []) h h1 (back (aE aK h (idsL vs) []) h.length h1.length) c1
     have e2:(b9 (back (aE aK h (idsL vs) []) h.length h1.length) h (aE aK h (idsL vs) []) h1).length - h.length = h1.length - (aE aK h (idsL vs) []).length:=by omega
     simp only [c1,c2,and_self,if_true,e2]
     first | done | rfl | (by_cases c3:((E.hint f).mode == 1 && h1.length - (aE aK h (idsL vs) []).length == 0) = true <;> simp [c3])
    ·simp only [c2,and_false,if_false,Bool.false_eq_true]
   ·simp only [c1,false_and,if_false]
def a0m (E:Env) (call:b7) (thaw:List Nat) (dst:Option Tmp) (op:Op) (s:List A) (h:H) (q:A → H → Foot → Option R):Option R:=kOpD E call thaw dst op s h q
theorem aIQ {t:Nat} {args:List Operand} {tys:Array TypeId} {q:A → H → Foot → Option R}:kOpD E call thaw dst (.call ⟨.value (.tmp t),args.toArray,tys⟩) s h q = match box (s.getD t (.d .undef)) with
  | .mk (.d (.fn f caps)) => kvs s args fun vs => match box (aE aK h (idsL vs) []) with
   | .no => none
   | .mk ord => match box (vs ++ caps.map .d) with | .no => none | .mk as' => bC E call h f as' fun a h' => match box (qI E f h h' ord) with | .mk (some (h'',c)) => q a h'' c | _ => none
  | .mk (.clo f []) => kvs s args fun vs => match box (aE aK h (idsL vs) []) with
   | .no => none
   | .mk ord => bC E call h f vs fun a h' => match box (qI E f h h' ord) with | .mk (some (h'',c)) => q a h'' c | _ => none
  | _ => a0m E call thaw dst (.call ⟨.value (.tmp t),args.toArray,tys⟩) s h q:=by
 have key:=fun (f:FuncId) (caps:List D) hg => aPC (E:=E) (call:=call) (thaw:=thaw) (dst:=dst) (s:=s) (h:=h) (t:=t) (args:=args) (tys:=tys) (q:=q) (f:=f) (caps:=caps) hg
 have k2:∀ f,s.getD t (.d .undef) = .clo f [] → kOpD E call thaw dst (.call ⟨.value (.tmp t),args.toArray,tys⟩) s h q = kOpD E call thaw dst (.call ⟨.value (.func f),args.toArray,tys⟩) s h q:=by
  intro f hg
  unfold kOpD kvs
  simp only [opds,cE,dN,hg]
  cases cE s args <;> rfl
 have fold:∀ (f:FuncId) (h h':H) (ord:List Nat) (a:A),(if ((E.hint f).mode == 1 && h'.length - h.length == 0) = true then q a h { ids:=ord,ro:=true } else q a h' { ids:=ord ++ List.range' h.length (h'.length - h.length),ro:=false,wr:=wrC E f ord ++ List.range' h.length (h'.length - h.length) }) = match box (qI E f h h' ord) with | .mk (some (h'',c)) => q a h'' c | _ => none:=by
  intro f h h' ord a
  unfold qI
  by_cases hc:((E.hint f).mode == 1 && h'.length - h.length == 0) = true
  ·simp only [if_pos hc,box]
  ·simp only [if_neg hc,box]
 generalize hs:s.getD t (.d .undef) = a
 cases a with
 | d x =>
  cases x with
  | fn f caps =>
   rw [key f caps ⟨hs⟩]
   simp only [fold]
   rfl
  | _ => rfl
 | clo f caps =>
  cases caps with
  | nil => rw [k2 f hs]; exact aD8
  | cons c caps => rfl
 | _ => rfl
theorem aAt (n:Nat) (h:H):aE n h [] [] = []:=by cases n <;> rfl
mutual
theorem M9 {f:Nat → Option Nat}:∀ a:A,idsA a = [] → mapA f a = a
 | .d x,_ => by simp only [mapA]
 | .sl id gen off len,h => by simp [idsA] at h
 | .ptr id gen off,h => by simp [idsA] at h
 | .mp id,h => by simp [idsA] at h
 | .clo g caps,h => by simp only [idsA] at h; simp only [mapA]; rw [vR caps h]
 | .agg cs,h => by simp only [idsA] at h; simp only [mapA]; rw [vR cs h]
 | .tup cs,h => by simp only [idsA] at h; simp only [mapA]; rw [vR cs h]
 | .junk,_ => by simp only [mapA]
theorem vR {f:Nat → Option Nat}:∀ as:List A,idsL as = [] → aW f as = as
 | [],_ => by simp only [aW]
 | a :: as,h => by
  simp only [idsL,List.append_eq_nil_iff] at h
  simp only [aW]
  rw [M9 a h.1,vR as h.2]
end
theorem aV8 {a:A} (h:vS a = true):idsA a = []:=by
 cases a with
 | d x => rfl
 | agg cs =>
  simp only [vS] at h
  simp only [idsA]
  induction cs with
  | nil => rfl
  | cons c cs ih =>
   simp only [List.all_cons,Bool.and_eq_true] at h
   simp only [idsL,ih h.2,List.append_nil]
   cases c <;> first | rfl | simp [isD] at h
 | _ => simp [vS] at h
theorem wB:∀ {as:List A},as.all vS = true → idsL as = []
 | [],_ => rfl
 | a :: as,h => by
  simp only [List.all_cons,Bool.and_eq_true] at h
  simp only [idsL,aV8 h.1,wB h.2,List.append_nil]
theorem aId {h:H}:∀ {cs:List A},cs.all isD = true → ∃ ds,frzL h cs = some (ds,h) ∧ ds.map .d = cs
 | [],_ => ⟨[],rfl,rfl⟩
 | c :: cs,hs => by
  simp only [List.all_cons,Bool.and_eq_true] at hs
  obtain ⟨ds,h1,h2⟩:=aId (h:=h) hs.2
  cases c with
  | d x =>
   refine ⟨x :: ds,?_,by simp [h2]⟩
   unfold frzL at h1 ⊢
   simp only [iX]
   have:frz deep h (.d x) = some (x,h):=rfl
   rw [this]
   simp only [h1]
  | _ => simp [isD] at hs
theorem xT {h:H}:∀ {as:List A},as.all vS = true → l6 h as = some (as,h)
 | [],_ => rfl
 | a :: as,hs => by
  simp only [List.all_cons,Bool.and_eq_true] at hs
  have ha:frzA h a = some (a,h):=by
   cases a with
   | d x => rfl
   | agg cs =>
    obtain ⟨ds,h1,h2⟩:=aId (h:=h) (cs:=cs) (by simpa only [vS] using hs.1)
    simp only [frzA,h1,h2]
   | _ => simp [vS] at hs
  simp only [l6,ha,xT hs.2]
theorem aPK {r:A} (h:m4 r = true):s6 r = true ∧ mapA (fun k => back [] 0 0 k) r = r:=by
 cases r with
 | d x => cases x <;> first | exact ⟨rfl,rfl⟩ | simp [m4] at h
 | tup vs =>
  simp only [m4] at h
  have key:pJ vs = true ∧ aW (fun k => back [] 0 0 k) vs = vs:=by
   induction vs with
   | nil => exact ⟨rfl,by simp only [aW]⟩
   | cons v vs ih =>
    simp only [List.all_cons,Bool.and_eq_true] at h
    obtain ⟨i1,i2⟩:=ih h.2
    cases v with
    | d x => cases x <;> first | (exfalso; simp at h; done) | (refine ⟨by simp only [pJ,s6,CQ,i1,Bool.and_self],by simp only [aW,mapA,i2]⟩)
    | _ => simp at h
  exact ⟨by simp only [s6]; exact key.1,by simp only [mapA,key.2]⟩
 | _ => simp [m4] at h
theorem aPQ {f:FuncId} {args:List A} {r:A} (hs:args.all vS = true) (hc:call f args [] = some (r,[])) (hp:m4 r = true ∨ ((E.hint f).mode == 1 || (E.hint f).mode == 3) = false):eO call E.hint [] f args = some (r,[]):=by
 unfold eO
 split
 ·exact hc
 ·rename_i hm
  rw [xT hs]
  simp only [hc]
  rcases hp with hp | hp
  ·rw [hp]; rfl
  ·rw [hm] at hp; cases hp
 ·rename_i hm
  rw [xT hs]
  simp only [hc]
  rcases hp with hp | hp
  ·obtain ⟨h1,h2⟩:=aPK hp
   rw [h1]
   simp only [List.all_nil,Bool.and_self,if_true,List.length_nil,List.map_nil,List.append_nil]
   exact congrArg (fun x => some (x,([]:H))) h2
  ·rw [hm] at hp; cases hp
 ·rw [xT hs]
  simp only [hc]
theorem eS {f:FuncId} {args:List A} {r:A} (hs:args.all vS = true) (hc:call f args [] = some (r,[])) (hr:idsA r = []) (hp:m4 r = true ∨ ((E.hint f).mode == 1 || (E.hint f).mode == 3) = false):bC E call h f args k = k r h:=by
 unfold bC
 rw [wB hs,aAt,vR _ (wB hs)]
 have:pack h [] = []:=rfl
 rw [this,aPQ hs hc hp]
 simp only [List.length_nil,Nat.le_refl,true_and,closed,List.all_nil,Bool.and_self,if_true,M9 r hr,b9,List.map_nil,List.append_nil]
def tR (call:b7) (f:FuncId) (args:List A) (k:A → Option R):Option R :=
 match call f args [] with
 | some (r,[]) => if m4 r = true then k r else none
 | _ => none
theorem mP {f:FuncId} {args:List A} {r:A} {k:A → Option R} (hc:call f args [] = some (r,[])) (hp:m4 r = true):tR call f args k = k r:=by
 unfold tR
 rw [hc]
 simp only [hp,if_true]
theorem aWf {r:A} (h:m4 r = true):idsA r = []:=by
 cases r with
 | d x => rfl
 | tup vs =>
  simp only [m4] at h
  simp only [idsA]
  induction vs with
  | nil => rfl
  | cons v vs ih =>
   simp only [List.all_cons,Bool.and_eq_true] at h
   simp only [idsL,ih h.2,List.append_nil]
   cases v with
   | d x => rfl
   | _ => simp at h
 | _ => simp [m4] at h
theorem aTC (ord:List Nat) (n:Nat):back ord n ord.length = fun k => ord[k]?:=by
 funext k
 unfold back
 split
 ·rfl
 ·rename_i h
  rw [List.getElem?_eq_none (by omega)]
theorem aNu {h:H} {ord ids:List Nat} (hc:closed h ord ids = true) (hn:ord.Nodup) (hl:∀ i ∈ ord,i < h.length):b9 (fun (k:Nat) => ord[k]?) h ord (pack h ord) = h:=by
 apply List.ext_getElem?
 intro id
 rw [XI _ ord h _ id hn hl (by simp [pack])]
 cases hp:aN ord id with
 | none =>
  simp only []
  split
  ·rfl
  ·rename_i hge
   rw [List.getElem?_eq_none (by simp [pack]),List.getElem?_eq_none (by omega)]
   rfl
 | some k =>
  simp only []
  have hm:=aLA hp
  obtain ⟨o,ho⟩:∃ o,h[id]? = some o:=⟨h[id]'(hl id hm),List.getElem?_eq_getElem _⟩
  rw [xL (cZ hp) ho,ho,Option.map_some,aL6 hc hm ho]
theorem aPL {f:FuncId} {args:List A} (hm:(E.hint f).mode = 1):bC E call h f args k = match box (aE aK h (idsL args) []) with
  | .no => none
  | .mk ord => match box (l6 (pack h ord) (aW (aN ord) args)) with
   | .mk (some (fs,_)) => if closed h ord (idsL args) = true then tR call f fs fun r => k r h else none
   | _ => none:=by
 unfold bC eO
 rw [hm]
 simp only [box]
 cases hf:l6 (pack h (aE aK h (idsL args) [])) (aW (aN (aE aK h (idsL args) [])) args) with
 | none => rfl
 | some r =>
  obtain ⟨fs,h1⟩:=r
  simp only [tR]
  cases hc:call f fs [] with
  | none => simp
  | some r =>
   obtain ⟨a,h2⟩:=r
   cases h2 with
   | cons o h2 => simp
   | nil =>
    simp only []
    by_cases hp:m4 a = true
    ·simp only [hp,if_true]
     have hlen:(pack h (aE aK h (idsL args) [])).length = (aE aK h (idsL args) []).length:=by simp [pack]
     simp only [hlen,Nat.le_refl,true_and]
     by_cases hcl:closed h (aE aK h (idsL args) []) (idsL args) = true
     ·simp only [hcl,if_true,aTC,M9 a (aWf hp)]
      rw [aNu hcl (gQ aK h (idsL args) [] (by simp)) (pT aK h (idsL args) [] (by simp))]
     ·simp only [hcl,Bool.false_eq_true,if_false]
    ·simp only [hp,Bool.false_eq_true,if_false]
     simp
def VK (h:H) (args:List A):Option (List A):=match box (aE aK h (idsL args) []) with
 | .no => none
 | .mk ord => match box (l6 (pack h ord) (aW (aN ord) args)) with
  | .mk (some (fs,_)) => if closed h ord (idsL args) = true then some fs else none
  | _ => none
theorem aC {f:FuncId} {args:List A} (hm:(E.hint f).mode = 1):bC E call h f args k = match box (VK h args) with
  | .mk (some fs) => tR call f fs fun r => k r h
  | _ => none:=by
 rw [aPL hm]
 unfold VK
 simp only [box]
 cases l6 (pack h (aE aK h (idsL args) [])) (aW (aN (aE aK h (idsL args) [])) args) with
 | none => rfl
 | some r =>
  obtain ⟨fs,h1⟩:=r
  simp only []
  by_cases hc:closed h (aE aK h (idsL args) []) (idsL args) = true
  ·simp only [if_pos hc]
  ·simp only [if_neg hc]
theorem aP3 {nf:Nat} {h:H} {ord:List Nat} {s:List A}:trim nf h ord s = match box (pack h ord) with
  | .mk p => (dL nf p (aW (aN ord) s),oN nf p)
  | .no => ([],[]):=rfl
theorem aYF {nf:Nat} {m:List Bool} {s:List A} {h:H}:gc nf m s h = match box (tidy m s) with
  | .mk s1 => match box (iF nf h (idsL s1)) with
   | .mk ord => trim nf h ord s1
   | .no => ([],[])
  | .no => ([],[]):=rfl
theorem aQs {P:Program} {nf:Nat} {exp:Bool} {rs:List ResultVar} {e:Exit} {s:List A} {h:H}:kFin P nf exp rs e s h =
  if kQ e then (match qV P s h rs with
   | some rs => match IG nf exp h rs with
    | some (xs,h2) => match box (iF nf h2 (idsL xs)) with
     | .mk ord => match box (trim nf h2 ord xs) with
      | .mk r => some (tupA r.1,r.2)
      | .no => none
     | .no => none
    | none => none
   | none => none) else none:=rfl
theorem aIv (nf:Nat) (h:H) (ids:List Nat):iF nf h ids = aE 1099511627776 h (nY (h.take nf) ++ ids) (List.range nf):=rfl
theorem rng0:List.range 0 = []:=rfl
theorem rng1:List.range 1 = [0]:=rfl
theorem rng2:List.range 2 = [0,1]:=rfl
theorem rng3:List.range 3 = [0,1,2]:=rfl
theorem zT (h:H) (ids:List Nat):iF 0 h ids = aE 1099511627776 h ids []:=by
 unfold iF
 simp only [List.take_zero,nY,List.nil_append,List.range_zero]
 rfl
theorem aKP (n:Nat) (h:H) (acc:List Nat):aE n h [] acc = acc:=by cases n <;> rfl
theorem aJX (n:Nat) (h:H) (i:Nat) (todo acc:List Nat):aE (n + 1) h (i :: todo) acc = if acc.contains i = true then aE n h todo acc
  else match h.getD i .void with
   | .box cs => aE n h (todo ++ idsL cs) (acc ++ [i])
   | .vec cs _ _ => aE n h (todo ++ idsL cs) (acc ++ [i])
   | .void => aE n h todo acc
   | _ => aE n h todo (acc ++ [i]):=by
 simp only [aE,List.getD_eq_getElem?_getD]
 split
 ·rfl
 ·cases h[i]? with
  | none => rfl
  | some o => cases o <;> rfl
theorem aNo {α:Type} {c:Prop} [Decidable c] {a:α} (hc:c):(if c then some a else none) = some a:=if_pos hc
def iAnd (k:IntKind) (a b:Int):Int:=k.wrap (BitVec.ofInt k.bits a &&& BitVec.ofInt k.bits b).toNat
def iOr (k:IntKind) (a b:Int):Int:=k.wrap (BitVec.ofInt k.bits a ||| BitVec.ofInt k.bits b).toNat
def iXor (k:IntKind) (a b:Int):Int:=k.wrap (BitVec.ofInt k.bits a ^^^ BitVec.ofInt k.bits b).toNat
def aZJ (k:IntKind) (a b:Int):Int:=k.wrap (BitVec.ofInt k.bits a &&& ~~~BitVec.ofInt k.bits b).toNat
section
variable {t:TypeId} {K:IntKind} {a b:Int}
theorem aLM:cY E .add t h (.d (.int K a)) (.d (.int K b)) = some (.d (.int K (K.wrap (a + b))),h):=by simp [cY,aBin]; rfl
theorem aLF:cY E .sub t h (.d (.int K a)) (.d (.int K b)) = some (.d (.int K (K.wrap (a - b))),h):=by simp [cY,aBin]; rfl
theorem aK2:cY E .mul t h (.d (.int K a)) (.d (.int K b)) = some (.d (.int K (K.wrap (a * b))),h):=by simp [cY,aBin]; rfl
theorem aLI:cY E .and t h (.d (.int K a)) (.d (.int K b)) = some (.d (.int K (iAnd K a b)),h):=by simp [cY,aBin]; rfl
theorem aN1:cY E .or t h (.d (.int K a)) (.d (.int K b)) = some (.d (.int K (iOr K a b)),h):=by simp [cY,aBin]; rfl
theorem aLH:cY E .xor t h (.d (.int K a)) (.d (.int K b)) = some (.d (.int K (iXor K a b)),h):=by simp [cY,aBin]; rfl
theorem aC2:cY E .andNot t h (.d (.int K a)) (.d (.int K b)) = some (.d (.int K (aZJ K a b)),h):=by simp [cY,aBin]; rfl
theorem aMi:cY E .lss t h (.d (.int K a)) (.d (.int K b)) = some (.d (.bool (decide (a < b))),h):=by simp [cY,aBin]
theorem aL2:cY E .leq t h (.d (.int K a)) (.d (.int K b)) = some (.d (.bool (decide (a ≤ b))),h):=by simp [cY,aBin]
theorem aMt:cY E .gtr t h (.d (.int K a)) (.d (.int K b)) = some (.d (.bool (decide (b < a))),h):=by simp [cY,aBin]
theorem aLL:cY E .geq t h (.d (.int K a)) (.d (.int K b)) = some (.d (.bool (decide (b ≤ a))),h):=by simp [cY,aBin]
theorem aK1:cY E .eql t h (.d (.int K a)) (.d (.int K b)) = some (.d (.bool (decide (a = b))),h):=by simp [cY,aBin]; rfl
theorem aKY:cY E .neq t h (.d (.int K a)) (.d (.int K b)) = some (.d (.bool (!decide (a = b))),h):=by simp [cY,aBin]; rfl
theorem aLV (hb:b ≠ 0):cY E .quo t h (.d (.int K a)) (.d (.int K b)) = some (.d (.int K (K.wrap (a.tdiv b))),h):=by simp [cY,aBin,hb]
theorem aLS (hb:b ≠ 0):cY E .rem t h (.d (.int K a)) (.d (.int K b)) = some (.d (.int K (a.tmod b)),h):=by simp [cY,aBin,hb]
theorem aMM {K2:IntKind} (hb:0 ≤ b):cY E .shl t h (.d (.int K a)) (.d (.int K2 b)) = some (.d (.int K (K.wrap (a * 2 ^ (min b.toNat K.bits)))),h):=by
 have:¬ b < 0:=by omega
 simp [cY,aBin,Op.shift,this]; rfl
theorem aKX {K2:IntKind} (hb:0 ≤ b):cY E .shr t h (.d (.int K a)) (.d (.int K2 b)) = some (.d (.int K (a.fdiv (2 ^ (min b.toNat K.bits)))),h):=by
 have:¬ b < 0:=by omega
 simp [cY,aBin,Op.shift,this]; rfl
theorem aQg {b:Bool}:aUn .not (.d (.bool b)) = some (.d (.bool (!b))):=rfl
end
end
theorem WD:type_of% (AI @aI9 (AI @aMw (AI @aFL (AI @aLU (AI @aIy (AI @aFo (AI @aID (AI @aIB (AI @aL3 (AI @aNF (AI @aLq (AI @aK8 (AI @aHB (AI @aFJ (AI @aF7 (AI @aSN (AI @aSL (AI @aQZ (AI @aVO (AI @aP6 (AI @aQB (AI @aQv (AI @aU4 (AI @aP7 (AI @aOf (AI @aNP (AI @XY (AI @RI (AI @UZ (AI @aQy (AI @aU0 (AI @aO8 (AI @aDP (AI @aO4 (AI @aNE (AI @aLu (AI @aMy (AI @aQG (AI @aL0 (AI @XT (AI @aCw (AI @aBz (AI @aFz (AI @aFw (AI @aFv (AI @aFZ (AI @aB1 (AI @aK0 (AI @aBQ (AI @aLX (AI @aGj (AI @aGd (AI @aLg (AI @aQs (AI @aDo (AI @aIR (AI @aMo (AI @aF8 (AI @aJW @aB3))))))))))))))))))))))))))))))))))))))))))))))))))))))))))) :=
 ⟨@aI9,@aMw,@aFL,@aLU,@aIy,@aFo,@aID,@aIB,@aL3,@aNF,@aLq,@aK8,@aHB,@aFJ,@aF7,@aSN,@aSL,@aQZ,@aVO,@aP6,@aQB,@aQv,@aU4,@aP7,@aOf,@aNP,@XY,@RI,@UZ,@aQy,@aU0,@aO8,@aDP,@aO4,@aNE,@aLu,@aMy,@aQG,@aL0,@XT,@aCw,@aBz,@aFz,@aFw,@aFv,@aFZ,@aB1,@aK0,@aBQ,@aLX,@aGj,@aGd,@aLg,@aQs,@aDo,@aIR,@aMo,@aF8,@aJW,@aB3⟩
theorem WDD:type_of% (AI @aLK (AI @aIt (AI @aFH (AI @aJG (AI @aPb (AI @T4 (AI @aME (AI @ZV (AI @aHW (AI @YZ (AI @aFf (AI @aOa (AI @aLs (AI @aLv (AI @aBG (AI @aPh (AI @aQr (AI @aBr (AI @YS (AI @aI0 (AI @aHJ (AI @aEi (AI @aHT (AI @aD8 (AI @aKQ (AI @aLQ (AI @aIl (AI @aHY (AI @aFG (AI @aDc @ZE)))))))))))))))))))))))))))))) :=
 ⟨@aLK,@aIt,@aFH,@aJG,@aPb,@T4,@aME,@ZV,@aHW,@YZ,@aFf,@aOa,@aLs,@aLv,@aBG,@aPh,@aQr,@aBr,@YS,@aI0,@aHJ,@aEi,@aHT,@aD8,@aKQ,@aLQ,@aIl,@aHY,@aFG,@aDc,@ZE⟩
theorem WK0:type_of% (AI @aUT (AI @aQg (AI @aLM (AI @aLF (AI @aK2 (AI @aLI (AI @aN1 (AI @aLH (AI @aC2 (AI @aLV (AI @aLS (AI @aMM (AI @aKX (AI @aMi (AI @aL2 (AI @aMt (AI @aLL (AI @aK1 (AI @aKY (AI @ne_eq.{0} (AI @not_true_eq_false (AI @if_false.{0} (AI @if_true.{0} (AI @List.getD_nil.{0} (AI @List.getD_cons_zero.{0} (AI @List.getD_cons_succ.{0} (AI @List.set_cons_zero.{0} (AI @List.set_cons_succ.{0} (AI @aYF @aP3))))))))))))))))))))))))))))) :=
 ⟨@aUT,@aQg,@aLM,@aLF,@aK2,@aLI,@aN1,@aLH,@aC2,@aLV,@aLS,@aMM,@aKX,@aMi,@aL2,@aMt,@aLL,@aK1,@aKY,@ne_eq.{0},@not_true_eq_false,@if_false.{0},@if_true.{0},@List.getD_nil.{0},@List.getD_cons_zero.{0},@List.getD_cons_succ.{0},@List.set_cons_zero.{0},@List.set_cons_succ.{0},@aYF,@aP3⟩
theorem WK1:type_of% (AI @Bool.not_true (AI @Bool.not_false (AI @Bool.true_eq_false (AI @Bool.false_eq_true (AI @decide_eq_true_eq (AI @decide_eq_false_iff_not (AI @Option.map_some.{0,0} (AI @Option.bind_some.{0,0} (AI @List.append_nil.{0} (AI @List.nil_append.{0} (AI @List.map_nil.{0,0} (AI @decide_true (AI @decide_false (AI @Bool.not_eq_false' (AI @Bool.not_eq_true' (AI @aNo (AI @Nat.mul_one (AI @Nat.one_mul (AI @Nat.zero_add (AI @Nat.add_zero (AI @List.getElem?_cons_zero.{0} (AI @List.getElem?_cons_succ.{0} (AI @List.length_cons.{0} (AI @List.length_nil.{0} (AI @List.drop_zero.{0} (AI @List.all_cons.{0} (AI @List.all_nil.{0} (AI @Bool.and_self (AI @Bool.and_true @Bool.true_and))))))))))))))))))))))))))))) :=
 ⟨@Bool.not_true,@Bool.not_false,@Bool.true_eq_false,@Bool.false_eq_true,@decide_eq_true_eq,@decide_eq_false_iff_not,@Option.map_some.{0,0},@Option.bind_some.{0,0},@List.append_nil.{0},@List.nil_append.{0},@List.map_nil.{0,0},@decide_true,@decide_false,@Bool.not_eq_false',@Bool.not_eq_true',@aNo,@Nat.mul_one,@Nat.one_mul,@Nat.zero_add,@Nat.add_zero,@List.getElem?_cons_zero.{0},@List.getElem?_cons_succ.{0},@List.length_cons.{0},@List.length_nil.{0},@List.drop_zero.{0},@List.all_cons.{0},@List.all_nil.{0},@Bool.and_self,@Bool.and_true,@Bool.true_and⟩
theorem WK2:type_of% (AI @Bool.false_and (AI @Bool.and_false (AI @List.map_cons.{0,0} (AI @List.zip_cons_cons.{0,0} (AI @List.zip_nil_left.{0,0} (AI @List.flatten_cons.{0} (AI @List.flatten_nil.{0} (AI @List.take_zero.{0} (AI @List.take_nil.{0} (AI @List.drop_nil.{0} (AI @List.cons_append.{0} (AI @Bool.or_self (AI @Bool.or_false (AI @Bool.false_or (AI @Nat.not_lt_zero (AI @and_self (AI @and_true (AI @true_and (AI @Bool.or_true (AI @Bool.true_or (AI @Option.map_none.{0,0} (AI @List.drop_succ_cons.{0} (AI @List.take_succ_cons.{0} (AI @Nat.lt_irrefl (AI @List.head?_cons.{0} (AI @Option.any_some.{0} (AI @List.contains_cons.{0} (AI @List.contains_nil.{0} (AI @zT @aIv))))))))))))))))))))))))))))) :=
 ⟨@Bool.false_and,@Bool.and_false,@List.map_cons.{0,0},@List.zip_cons_cons.{0,0},@List.zip_nil_left.{0,0},@List.flatten_cons.{0},@List.flatten_nil.{0},@List.take_zero.{0},@List.take_nil.{0},@List.drop_nil.{0},@List.cons_append.{0},@Bool.or_self,@Bool.or_false,@Bool.false_or,@Nat.not_lt_zero,@and_self,@and_true,@true_and,@Bool.or_true,@Bool.true_or,@Option.map_none.{0,0},@List.drop_succ_cons.{0},@List.take_succ_cons.{0},@Nat.lt_irrefl,@List.head?_cons.{0},@Option.any_some.{0},@List.contains_cons.{0},@List.contains_nil.{0},@zT,@aIv⟩
theorem WK3:type_of% (AI @rng0 (AI @rng1 (AI @rng2 (AI @rng3 (AI @Option.getD_none.{0} (AI @Option.isNone_none.{0} (AI @Option.isNone_some.{0} (AI @Option.isSome_none.{0} (AI @Option.isSome_some.{0} (AI @aKP (AI @aJX (AI @beq_self_eq_true.{0} (AI @Nat.succ_ne_self (AI @Nat.zero_ne_one (AI @Nat.one_ne_zero (AI @List.length_append.{0} (AI @false_or (AI @or_false (AI @or_true (AI @true_or (AI @List.take_length.{0} (AI @Option.toList_none.{0} @Option.toList_some.{0})))))))))))))))))))))) :=
 ⟨@rng0,@rng1,@rng2,@rng3,@Option.getD_none.{0},@Option.isNone_none.{0},@Option.isNone_some.{0},@Option.isSome_none.{0},@Option.isSome_some.{0},@aKP,@aJX,@beq_self_eq_true.{0},@Nat.succ_ne_self,@Nat.zero_ne_one,@Nat.one_ne_zero,@List.length_append.{0},@false_or,@or_false,@or_true,@true_or,@List.take_length.{0},@Option.toList_none.{0},@Option.toList_some.{0}⟩
theorem WK:type_of% (AI @WK0 (AI @WK1 (AI @WK2 @WK3))) :=
 ⟨@WK0,@WK1,@WK2,@WK3⟩
section
variable {E:Env} {vs:List A} {t u:TypeId} {x y:Operand}
theorem aFp:gI E (.load t x) vs = true:=rfl
theorem aDD {a b c:Option Operand}:gI E (.slice t x a b c) vs = true:=rfl
theorem aK4:gI E (.indexAddr t x y) vs = true:=rfl
theorem aFD:gI E (.convert t u x) vs = (bP E.P u).isNone:=rfl
theorem aBM {a:Array Operand} {b:Array TypeId}:gI E (.call ⟨.builtin .append,a,b⟩) vs = false:=rfl
theorem aIW {a:Array Operand} {b:Array TypeId}:gI E (.call ⟨.builtin .len,a,b⟩) vs = true:=rfl
theorem aIj {a:Array Operand} {b:Array TypeId} {f:FuncId} {c:List A}:gI E (.call ⟨.value x,a,b⟩) (.clo f c :: vs) = ((E.hint f).mode == 1):=rfl
theorem aLa {a:Array Operand} {b:Array TypeId} {f:FuncId} {c:List D}:gI E (.call ⟨.value x,a,b⟩) (.d (.fn f c) :: vs) = ((E.hint f).mode == 1):=rfl
theorem aJo:gI E (.box t x) vs = false:=rfl
theorem aCz:gI E (.alloc t) vs = false:=rfl
theorem aBR:gI E (.assign x) vs = false:=rfl
theorem aD7:gI E (.store t x y) vs = false:=rfl
theorem aMg {n:Nat} {ps:Array (Nat × Operand)}:gI E (.buildSlice t n ps) vs = false:=rfl
theorem aMK:gI E (.makeSlice t x y) vs = false:=rfl
theorem aMF:gI E (.makeMap t none) vs = false:=rfl
theorem aMv {z:Operand}:gI E (.mapUpdate t x y z) vs = false:=rfl
theorem aQl {b:Bool}:cX (.lookup t x y b) = false:=rfl
theorem aP2:cX (.makeMap t none) = false:=rfl
theorem aQH {z:Operand}:cX (.mapUpdate t x y z) = false:=rfl
theorem aIJ:opds (.alloc t) = []:=rfl
theorem aMx:cX (.load t x) = false:=rfl
theorem aH3:cX (.store t x y) = false:=rfl
theorem aFc:cX (.assign x) = false:=rfl
theorem aJI:cX (.alloc t) = false:=rfl
theorem aN6:cX (.box t x) = false:=rfl
theorem aQQ {n:Nat} {ps:Array (Nat × Operand)}:cX (.buildSlice t n ps) = false:=rfl
theorem aMG:cX (.convert t u x) = false:=rfl
theorem aQR:cX (.makeSlice t x y) = false:=rfl
theorem aIH {a b c:Option Operand}:cX (.slice t x a b c) = false:=rfl
theorem aP1:cX (.indexAddr t x y) = false:=rfl
theorem aLi {c:Call}:cX (.call c) = false:=rfl
end
theorem UNx1:type_of% (fun v0 => @kQ.eq_3 (Go.Exit.exit v0) (by nofun) (by nofun)):=by intros; rfl
theorem UNx2:type_of% (fun v0 => @kQ.eq_3 (Go.Exit.goto v0) (by nofun) (by nofun)):=by intros; rfl
theorem UNx3:type_of% (fun v0 => @kQ.eq_3 (Go.Exit.panic v0) (by nofun) (by nofun)):=by intros; rfl
theorem UNx4:type_of% (@kQ.eq_3 Go.Exit.outgrown (by nofun) (by nofun)):=(@kQ.eq_3 Go.Exit.outgrown (by nofun) (by nofun))
theorem UNx5:type_of% (fun v0 v1 v2 v3 => @outA.eq_2 v0 v1 v2 (A.d v3) (by nofun)):=by intros; rfl
theorem UNx6:type_of% (fun v0 v1 v2 v3 v4 v5 v6 => @outA.eq_2 v0 v1 v2 (A.sl v3 v4 v5 v6) (by nofun)):=by intros; rfl
theorem UNx7:type_of% (fun v0 v1 v2 v3 v4 v5 => @outA.eq_2 v0 v1 v2 (A.ptr v3 v4 v5) (by nofun)):=by intros; rfl
theorem UNx8:type_of% (fun v0 v1 v2 v3 => @outA.eq_2 v0 v1 v2 (A.mp v3) (by nofun)):=by intros; rfl
theorem UNx9:type_of% (fun v0 v1 v2 v3 v4 => @outA.eq_2 v0 v1 v2 (A.clo v3 v4) (by nofun)):=by intros; rfl
theorem aYa:type_of% (fun v0 v1 v2 v3 => @outA.eq_2 v0 v1 v2 (A.tup v3) (by nofun)):=by intros; rfl
theorem aZb:type_of% (fun v0 v1 v2 => @outA.eq_2 v0 v1 v2 A.junk (by nofun)):=by intros; rfl
theorem aY7:type_of% (fun v0 v1 v2 => @outS.eq_2 v0 v1 v2 D.undef (by nofun)):=by intros; rfl
theorem aYC:type_of% (fun v0 v1 v2 v3 v4 => @outS.eq_2 v0 v1 v2 (D.int v3 v4) (by nofun)):=by intros; rfl
theorem aY1:type_of% (fun v0 v1 v2 v3 => @outS.eq_2 v0 v1 v2 (D.bool v3) (by nofun)):=by intros; rfl
theorem aZh:type_of% (fun v0 v1 v2 v3 => @outS.eq_2 v0 v1 v2 (D.str v3) (by nofun)):=by intros; rfl
theorem aYY:type_of% (fun v0 v1 v2 v3 v4 => @outS.eq_2 v0 v1 v2 (D.ivs v3 v4) (by nofun)):=by intros; rfl
theorem aXS:type_of% (fun v0 v1 v2 v3 => @outS.eq_2 v0 v1 v2 (D.iptr v3) (by nofun)):=by intros; rfl
theorem aYO:type_of% (fun v0 v1 v2 => @outS.eq_2 v0 v1 v2 D.nilp (by nofun)):=by intros; rfl
theorem aX3:type_of% (fun v0 v1 v2 v3 v4 => @outS.eq_2 v0 v1 v2 (D.fn v3 v4) (by nofun)):=by intros; rfl
theorem aYi:type_of% (fun v0 v1 v2 => @outS.eq_2 v0 v1 v2 D.nilfn (by nofun)):=by intros; rfl
theorem aYL:type_of% (fun v0 v1 v2 => @outS.eq_2 v0 v1 v2 D.nili (by nofun)):=by intros; rfl
theorem aXU:type_of% (fun v0 v1 v2 => @outS.eq_2 v0 v1 v2 D.nilm (by nofun)):=by intros; rfl
theorem aYD:type_of% (fun v0 v1 v2 v3 v4 => @outS.eq_2 v0 v1 v2 (D.ifc v3 v4) (by nofun)):=by intros; rfl
theorem aYu:type_of% (fun v0 v1 v2 v3 => @outS.eq_7 v0 v1 v2 (A.agg v3) (by nofun) (by nofun) (by nofun) (by nofun) (by nofun) (by nofun)):=by intros; rfl
theorem aYW:type_of% (fun v0 v1 v2 v3 => @outS.eq_7 v0 v1 v2 (A.tup v3) (by nofun) (by nofun) (by nofun) (by nofun) (by nofun) (by nofun)):=by intros; rfl
theorem aZf:type_of% (fun v0 v1 v2 => @outS.eq_7 v0 v1 v2 A.junk (by nofun) (by nofun) (by nofun) (by nofun) (by nofun) (by nofun)):=by intros; rfl
theorem aZd:type_of% (fun v0 v1 => @tW.eq_4 (List.cons v0 v1) (by nofun)):=(fun v0 v1 => @tW.eq_4 (List.cons v0 v1) (by nofun))
theorem aXY:type_of% (fun v0 v1 => @eC.eq_3 (A.d (D.int v0 v1)) (by nofun) (by nofun)):=by intros; rfl
theorem aZi:type_of% (fun v0 => @eC.eq_3 (A.d (D.bool v0)) (by nofun) (by nofun)):=by intros; rfl
theorem aX8:type_of% (fun v0 => @eC.eq_3 (A.d (D.str v0)) (by nofun) (by nofun)):=by intros; rfl
theorem aZt:type_of% (fun v0 v1 => @eC.eq_3 (A.d (D.ivs v0 v1)) (by nofun) (by nofun)):=by intros; rfl
theorem aZj:type_of% (@eC.eq_3 (A.d D.nils) (by nofun) (by nofun)):=(@eC.eq_3 (A.d D.nils) (by nofun) (by nofun))
theorem aXL:type_of% (fun v0 => @eC.eq_3 (A.d (D.iptr v0)) (by nofun) (by nofun)):=by intros; rfl
theorem aYy:type_of% (@eC.eq_3 (A.d D.nilp) (by nofun) (by nofun)):=(@eC.eq_3 (A.d D.nilp) (by nofun) (by nofun))
theorem aYd:type_of% (fun v0 v1 => @eC.eq_3 (A.d (D.fn v0 v1)) (by nofun) (by nofun)):=by intros; rfl
theorem aX4:type_of% (@eC.eq_3 (A.d D.nilfn) (by nofun) (by nofun)):=(@eC.eq_3 (A.d D.nilfn) (by nofun) (by nofun))
theorem aXP:type_of% (@eC.eq_3 (A.d D.nili) (by nofun) (by nofun)):=(@eC.eq_3 (A.d D.nili) (by nofun) (by nofun))
theorem aYb:type_of% (@eC.eq_3 (A.d D.nilm) (by nofun) (by nofun)):=(@eC.eq_3 (A.d D.nilm) (by nofun) (by nofun))
theorem aX0:type_of% (fun v0 v1 => @eC.eq_3 (A.d (D.ifc v0 v1)) (by nofun) (by nofun)):=by intros; rfl
theorem aYN:type_of% (fun v0 v1 v2 v3 => @eC.eq_3 (A.sl v0 v1 v2 v3) (by nofun) (by nofun)):=by intros; rfl
theorem aZq:type_of% (fun v0 v1 v2 => @eC.eq_3 (A.ptr v0 v1 v2) (by nofun) (by nofun)):=by intros; rfl
theorem aYG:type_of% (fun v0 => @eC.eq_3 (A.mp v0) (by nofun) (by nofun)):=by intros; rfl
theorem aYp:type_of% (fun v0 v1 => @eC.eq_3 (A.clo v0 v1) (by nofun) (by nofun)):=by intros; rfl
theorem aYM:type_of% (fun v0 => @eC.eq_3 (A.agg v0) (by nofun) (by nofun)):=by intros; rfl
theorem aYX:type_of% (fun v0 => @eC.eq_3 (A.tup v0) (by nofun) (by nofun)):=by intros; rfl
theorem aXM:type_of% (fun v0 => @tidy.eq_3 List.nil v0 (by nofun) (by nofun)):=by intros; rfl
theorem aYo:type_of% (fun v0 => @tidy.eq_3 (List.cons Bool.false v0) List.nil (by nofun) (by nofun)):=by intros; rfl
theorem aYt:type_of% (fun v0 => @tidy.eq_3 (List.cons Bool.true v0) List.nil (by nofun) (by nofun)):=by intros; rfl
theorem aX2:type_of% (fun v0 v1 v2 v3 v4 => @dE.eq_2 v0 v1 v2 v3 (A.d v4) (by nofun)):=by intros; rfl
theorem aYx:type_of% (fun v0 v1 v2 v3 v4 v5 v6 v7 => @dE.eq_2 v0 v1 v2 v3 (A.sl v4 v5 v6 v7) (by nofun)):=by intros; rfl
theorem aX9:type_of% (fun v0 v1 v2 v3 v4 v5 v6 => @dE.eq_2 v0 v1 v2 v3 (A.ptr v4 v5 v6) (by nofun)):=by intros; rfl
theorem aY3:type_of% (fun v0 v1 v2 v3 v4 v5 => @dE.eq_2 v0 v1 v2 v3 (A.clo v4 v5) (by nofun)):=by intros; rfl
theorem aZo:type_of% (fun v0 v1 v2 v3 v4 => @dE.eq_2 v0 v1 v2 v3 (A.agg v4) (by nofun)):=by intros; rfl
theorem aY9:type_of% (fun v0 v1 v2 v3 v4 => @dE.eq_2 v0 v1 v2 v3 (A.tup v4) (by nofun)):=by intros; rfl
theorem aYP:type_of% (fun v0 v1 v2 v3 => @dE.eq_2 v0 v1 v2 v3 A.junk (by nofun)):=by intros; rfl
theorem aZn:type_of% (fun v0 v1 v2 v3 v4 => @oG.eq_2 v0 v1 v2 (A.d v4) v3 (by nofun)):=by intros; rfl
theorem aYI:type_of% (fun v0 v1 v2 v3 v4 v5 v6 => @oG.eq_2 v0 v1 v2 (A.ptr v4 v5 v6) v3 (by nofun)):=by intros; rfl
theorem aYA:type_of% (fun v0 v1 v2 v3 v4 => @oG.eq_2 v0 v1 v2 (A.mp v4) v3 (by nofun)):=by intros; rfl
theorem aXZ:type_of% (fun v0 v1 v2 v3 v4 v5 => @oG.eq_2 v0 v1 v2 (A.clo v4 v5) v3 (by nofun)):=by intros; rfl
theorem aZl:type_of% (fun v0 v1 v2 v3 v4 => @oG.eq_2 v0 v1 v2 (A.agg v4) v3 (by nofun)):=by intros; rfl
theorem aYV:type_of% (fun v0 v1 v2 v3 v4 => @oG.eq_2 v0 v1 v2 (A.tup v4) v3 (by nofun)):=by intros; rfl
theorem aYm:type_of% (fun v0 v1 v2 v3 => @oG.eq_2 v0 v1 v2 A.junk v3 (by nofun)):=by intros; rfl
theorem aYf:type_of% (fun v0 v1 => @LU.eq_2 v0 (A.d v1) (by nofun)):=by intros; rfl
theorem aYS:type_of% (fun v0 v1 v2 v3 => @LU.eq_2 v0 (A.ptr v1 v2 v3) (by nofun)):=by intros; rfl
theorem aX7:type_of% (fun v0 v1 => @LU.eq_2 v0 (A.mp v1) (by nofun)):=by intros; rfl
theorem aYv:type_of% (fun v0 v1 v2 => @LU.eq_2 v0 (A.clo v1 v2) (by nofun)):=by intros; rfl
theorem aYc:type_of% (fun v0 v1 => @LU.eq_2 v0 (A.agg v1) (by nofun)):=by intros; rfl
theorem aYs:type_of% (fun v0 v1 => @LU.eq_2 v0 (A.tup v1) (by nofun)):=by intros; rfl
theorem aX6:type_of% (fun v0 => @LU.eq_2 v0 A.junk (by nofun)):=by intros; rfl
theorem aYR:type_of% (fun v0 v1 v2 => @oA.eq_2 v0 v1 (A.d v2) (by nofun)):=by intros; rfl
theorem aZr:type_of% (fun v0 v1 v2 v3 v4 => @oA.eq_2 v0 v1 (A.ptr v2 v3 v4) (by nofun)):=by intros; rfl
theorem aYJ:type_of% (fun v0 v1 v2 => @oA.eq_2 v0 v1 (A.mp v2) (by nofun)):=by intros; rfl
theorem aYr:type_of% (fun v0 v1 v2 v3 => @oA.eq_2 v0 v1 (A.clo v2 v3) (by nofun)):=by intros; rfl
theorem aX5:type_of% (fun v0 v1 v2 => @oA.eq_2 v0 v1 (A.agg v2) (by nofun)):=by intros; rfl
theorem aYg:type_of% (fun v0 v1 v2 => @oA.eq_2 v0 v1 (A.tup v2) (by nofun)):=by intros; rfl
theorem aYH:type_of% (fun v0 v1 => @oA.eq_2 v0 v1 A.junk (by nofun)):=by intros; rfl
theorem aY5:type_of% (@sD.eq_2 Option.none (by nofun)):=(@sD.eq_2 Option.none (by nofun))
theorem aYZ:type_of% (fun v0 v1 => @sD.eq_2 (Option.some (Prod.mk (A.d v1) v0)) (by nofun)):=by intros; rfl
theorem aZe:type_of% (fun v0 v1 v2 v3 => @sD.eq_2 (Option.some (Prod.mk (A.ptr v1 v2 v3) v0)) (by nofun)):=by intros; rfl
theorem aZg:type_of% (fun v0 v1 => @sD.eq_2 (Option.some (Prod.mk (A.mp v1) v0)) (by nofun)):=by intros; rfl
theorem aXO:type_of% (fun v0 v1 v2 => @sD.eq_2 (Option.some (Prod.mk (A.clo v1 v2) v0)) (by nofun)):=by intros; rfl
theorem aYT:type_of% (fun v0 v1 => @sD.eq_2 (Option.some (Prod.mk (A.agg v1) v0)) (by nofun)):=by intros; rfl
theorem aZa:type_of% (fun v0 v1 => @sD.eq_2 (Option.some (Prod.mk (A.tup v1) v0)) (by nofun)):=by intros; rfl
theorem aXW:type_of% (fun v0 => @sD.eq_2 (Option.some (Prod.mk A.junk v0)) (by nofun)):=by intros; rfl
theorem aXQ:type_of% (fun v0 v1 v2 => @frz.eq_5 v0 (A.d v2) v1 (by nofun) (by nofun) (by nofun)):=by intros; rfl
theorem aYh:type_of% (fun v0 v1 v2 => @frz.eq_5 v0 (A.mp v2) v1 (by nofun) (by nofun) (by nofun)):=by intros; rfl
theorem aYw:type_of% (fun v0 v1 v2 => @frz.eq_5 v0 (A.agg v2) v1 (by nofun) (by nofun) (by nofun)):=by intros; rfl
theorem aYE:type_of% (fun v0 v1 v2 => @frz.eq_5 v0 (A.tup v2) v1 (by nofun) (by nofun) (by nofun)):=by intros; rfl
theorem aYk:type_of% (fun v0 v1 => @frz.eq_5 v0 A.junk v1 (by nofun) (by nofun) (by nofun)):=by intros; rfl
theorem aZc:type_of% (fun v0 v1 v2 v3 => @frz0.eq_3 v0 (A.ptr v1 v2 v3) (by nofun) (by nofun)):=by intros; rfl
theorem aXT:type_of% (fun v0 v1 => @frz0.eq_3 v0 (A.mp v1) (by nofun) (by nofun)):=by intros; rfl
theorem aZk:type_of% (fun v0 v1 v2 => @frz0.eq_3 v0 (A.clo v1 v2) (by nofun) (by nofun)):=by intros; rfl
theorem aXN:type_of% (fun v0 v1 => @frz0.eq_3 v0 (A.agg v1) (by nofun) (by nofun)):=by intros; rfl
theorem aYn:type_of% (fun v0 v1 => @frz0.eq_3 v0 (A.tup v1) (by nofun) (by nofun)):=by intros; rfl
theorem aZm:type_of% (fun v0 => @frz0.eq_3 v0 A.junk (by nofun) (by nofun)):=by intros; rfl
theorem aY2:type_of% (fun v0 => @a6.eq_2 (A.d v0) (by nofun)):=by intros; rfl
theorem aYQ:type_of% (fun v0 v1 v2 v3 => @a6.eq_2 (A.sl v0 v1 v2 v3) (by nofun)):=by intros; rfl
theorem aXX:type_of% (fun v0 v1 v2 => @a6.eq_2 (A.ptr v0 v1 v2) (by nofun)):=by intros; rfl
theorem aYB:type_of% (fun v0 => @a6.eq_2 (A.mp v0) (by nofun)):=by intros; rfl
theorem aSP:type_of% (fun v0 v1 => @a6.eq_2 (A.clo v0 v1) (by nofun)):=by intros; rfl
theorem aVa:type_of% (fun v0 => @a6.eq_2 (A.tup v0) (by nofun)):=by intros; rfl
theorem aVH:type_of% (@a6.eq_2 A.junk (by nofun)):=(@a6.eq_2 A.junk (by nofun))
theorem aVC:type_of% (fun v0 v1 => @c9.eq_5 (A.d (D.int v0 v1)) (by nofun) (by nofun) (by nofun) (by nofun)):=by intros; rfl
theorem aT4:type_of% (fun v0 => @c9.eq_5 (A.d (D.bool v0)) (by nofun) (by nofun) (by nofun) (by nofun)):=by intros; rfl
theorem aUH:type_of% (fun v0 => @c9.eq_5 (A.d (D.str v0)) (by nofun) (by nofun) (by nofun) (by nofun)):=by intros; rfl
theorem aTl:type_of% (fun v0 v1 => @c9.eq_5 (A.d (D.ivs v0 v1)) (by nofun) (by nofun) (by nofun) (by nofun)):=by intros; rfl
theorem aV4:type_of% (@c9.eq_5 (A.d D.nils) (by nofun) (by nofun) (by nofun) (by nofun)):=(@c9.eq_5 (A.d D.nils) (by nofun) (by nofun) (by nofun) (by nofun))
theorem aS8:type_of% (fun v0 => @c9.eq_5 (A.d (D.iptr v0)) (by nofun) (by nofun) (by nofun) (by nofun)):=by intros; rfl
theorem aSs:type_of% (@c9.eq_5 (A.d D.nilp) (by nofun) (by nofun) (by nofun) (by nofun)):=(@c9.eq_5 (A.d D.nilp) (by nofun) (by nofun) (by nofun) (by nofun))
theorem aTq:type_of% (fun v0 v1 => @c9.eq_5 (A.d (D.fn v0 v1)) (by nofun) (by nofun) (by nofun) (by nofun)):=by intros; rfl
theorem aU5:type_of% (@c9.eq_5 (A.d D.nilfn) (by nofun) (by nofun) (by nofun) (by nofun)):=(@c9.eq_5 (A.d D.nilfn) (by nofun) (by nofun) (by nofun) (by nofun))
theorem aWn:type_of% (@c9.eq_5 (A.d D.nili) (by nofun) (by nofun) (by nofun) (by nofun)):=(@c9.eq_5 (A.d D.nili) (by nofun) (by nofun) (by nofun) (by nofun))
theorem aV6:type_of% (@c9.eq_5 (A.d D.nilm) (by nofun) (by nofun) (by nofun) (by nofun)):=(@c9.eq_5 (A.d D.nilm) (by nofun) (by nofun) (by nofun) (by nofun))
theorem aS9:type_of% (fun v0 v1 => @c9.eq_5 (A.d (D.ifc v0 v1)) (by nofun) (by nofun) (by nofun) (by nofun)):=by intros; rfl
theorem aWq:type_of% (fun v0 v1 v2 v3 => @c9.eq_5 (A.sl v0 v1 v2 v3) (by nofun) (by nofun) (by nofun) (by nofun)):=by intros; rfl
theorem aUw:type_of% (fun v0 v1 v2 => @c9.eq_5 (A.ptr v0 v1 v2) (by nofun) (by nofun) (by nofun) (by nofun)):=by intros; rfl
theorem aUS:type_of% (fun v0 => @c9.eq_5 (A.mp v0) (by nofun) (by nofun) (by nofun) (by nofun)):=by intros; rfl
theorem aU1:type_of% (fun v0 v1 => @c9.eq_5 (A.clo v0 v1) (by nofun) (by nofun) (by nofun) (by nofun)):=by intros; rfl
theorem aUX:type_of% (fun v0 => @pE.eq_2 (A.d v0) (by nofun)):=by intros; rfl
theorem aUA:type_of% (fun v0 v1 v2 v3 => @pE.eq_2 (A.sl v0 v1 v2 v3) (by nofun)):=by intros; rfl
theorem aUt:type_of% (fun v0 v1 v2 => @pE.eq_2 (A.ptr v0 v1 v2) (by nofun)):=by intros; rfl
theorem aU8:type_of% (fun v0 => @pE.eq_2 (A.mp v0) (by nofun)):=by intros; rfl
theorem aS6:type_of% (fun v0 v1 => @pE.eq_2 (A.clo v0 v1) (by nofun)):=by intros; rfl
theorem aT6:type_of% (fun v0 => @pE.eq_2 (A.agg v0) (by nofun)):=by intros; rfl
theorem aUI:type_of% (fun v0 => @pE.eq_2 (A.tup v0) (by nofun)):=by intros; rfl
theorem aSn:type_of% (fun v0 v1 v2 v3 => @nY.eq_4 (O.arr v1 v2 v3) v0 (by nofun) (by nofun)):=by intros; rfl
theorem aUE:type_of% (fun v0 v1 v2 v3 => @nY.eq_4 (O.ice v1 v2 v3) v0 (by nofun) (by nofun)):=by intros; rfl
theorem aSG:type_of% (fun v0 v1 => @nY.eq_4 (O.log v1) v0 (by nofun) (by nofun)):=by intros; rfl
theorem aVG:type_of% (fun v0 v1 => @nY.eq_4 (O.mp v1) v0 (by nofun) (by nofun)):=by intros; rfl
theorem aVb:type_of% (fun v0 => @nY.eq_4 O.void v0 (by nofun) (by nofun)):=by intros; rfl
theorem aUB:type_of% (@tupA.eq_2 List.nil (by nofun)):=(@tupA.eq_2 List.nil (by nofun))
theorem aUe:type_of% (fun v0 v1 v2 => @tupA.eq_2 (List.cons v0 (List.cons v1 v2)) (by nofun)):=by intros; rfl
theorem aUz:type_of% (fun v0 => @opds.eq_26 (Go.Op.alloc v0) (by nofun) (by nofun) (by nofun) (by nofun) (by nofun) (by nofun) (by nofun) (by nofun) (by nofun) (by nofun) (by nofun) (by nofun) (by nofun) (by nofun) (by nofun) (by nofun) (by nofun) (by nofun) (by nofun) (by nofun) (by nofun) (by nofun) (by nofun) (by nofun) (by nofun)):=by intros; rfl
theorem aUJ:type_of% (fun v0 => @opds.eq_26 (Go.Op.ready v0) (by nofun) (by nofun) (by nofun) (by nofun) (by nofun) (by nofun) (by nofun) (by nofun) (by nofun) (by nofun) (by nofun) (by nofun) (by nofun) (by nofun) (by nofun) (by nofun) (by nofun) (by nofun) (by nofun) (by nofun) (by nofun) (by nofun) (by nofun) (by nofun) (by nofun)):=by intros; rfl
theorem aTY:type_of% (fun v0 => @opds.eq_26 (Go.Op.waits v0) (by nofun) (by nofun) (by nofun) (by nofun) (by nofun) (by nofun) (by nofun) (by nofun) (by nofun) (by nofun) (by nofun) (by nofun) (by nofun) (by nofun) (by nofun) (by nofun) (by nofun) (by nofun) (by nofun) (by nofun) (by nofun) (by nofun) (by nofun) (by nofun) (by nofun)):=by intros; rfl
theorem aTp:type_of% (fun v0 v1 => @opds.eq_26 (Go.Op.sliceToArrayPointer v0 v1) (by nofun) (by nofun) (by nofun) (by nofun) (by nofun) (by nofun) (by nofun) (by nofun) (by nofun) (by nofun) (by nofun) (by nofun) (by nofun) (by nofun) (by nofun) (by nofun) (by nofun) (by nofun) (by nofun) (by nofun) (by nofun) (by nofun) (by nofun) (by nofun) (by nofun)):=by intros; rfl
theorem aSq:type_of% (fun v0 v1 => @opds.eq_26 (Go.Op.makeInterface v0 v1) (by nofun) (by nofun) (by nofun) (by nofun) (by nofun) (by nofun) (by nofun) (by nofun) (by nofun) (by nofun) (by nofun) (by nofun) (by nofun) (by nofun) (by nofun) (by nofun) (by nofun) (by nofun) (by nofun) (by nofun) (by nofun) (by nofun) (by nofun) (by nofun) (by nofun)):=by intros; rfl
theorem aVn:type_of% (fun v0 v1 => @opds.eq_26 (Go.Op.makeChan v0 v1) (by nofun) (by nofun) (by nofun) (by nofun) (by nofun) (by nofun) (by nofun) (by nofun) (by nofun) (by nofun) (by nofun) (by nofun) (by nofun) (by nofun) (by nofun) (by nofun) (by nofun) (by nofun) (by nofun) (by nofun) (by nofun) (by nofun) (by nofun) (by nofun) (by nofun)):=by intros; rfl
theorem aT1:type_of% (fun v0 v1 v2 => @opds.eq_26 (Go.Op.mapEntry v0 v1 v2) (by nofun) (by nofun) (by nofun) (by nofun) (by nofun) (by nofun) (by nofun) (by nofun) (by nofun) (by nofun) (by nofun) (by nofun) (by nofun) (by nofun) (by nofun) (by nofun) (by nofun) (by nofun) (by nofun) (by nofun) (by nofun) (by nofun) (by nofun) (by nofun) (by nofun)):=by intros; rfl
theorem aWs:type_of% (fun v0 v1 v2 v3 => @opds.eq_26 (Go.Op.entryStore v0 v1 v2 v3) (by nofun) (by nofun) (by nofun) (by nofun) (by nofun) (by nofun) (by nofun) (by nofun) (by nofun) (by nofun) (by nofun) (by nofun) (by nofun) (by nofun) (by nofun) (by nofun) (by nofun) (by nofun) (by nofun) (by nofun) (by nofun) (by nofun) (by nofun) (by nofun) (by nofun)):=by intros; rfl
theorem aTN:type_of% (fun v0 v1 => @opds.eq_26 (Go.Op.range v0 v1) (by nofun) (by nofun) (by nofun) (by nofun) (by nofun) (by nofun) (by nofun) (by nofun) (by nofun) (by nofun) (by nofun) (by nofun) (by nofun) (by nofun) (by nofun) (by nofun) (by nofun) (by nofun) (by nofun) (by nofun) (by nofun) (by nofun) (by nofun) (by nofun) (by nofun)):=by intros; rfl
theorem aTs:type_of% (fun v0 v1 => @opds.eq_26 (Go.Op.next v0 v1) (by nofun) (by nofun) (by nofun) (by nofun) (by nofun) (by nofun) (by nofun) (by nofun) (by nofun) (by nofun) (by nofun) (by nofun) (by nofun) (by nofun) (by nofun) (by nofun) (by nofun) (by nofun) (by nofun) (by nofun) (by nofun) (by nofun) (by nofun) (by nofun) (by nofun)):=by intros; rfl
theorem aVU:type_of% (fun v0 => @opds.eq_26 (Go.Op.entry v0) (by nofun) (by nofun) (by nofun) (by nofun) (by nofun) (by nofun) (by nofun) (by nofun) (by nofun) (by nofun) (by nofun) (by nofun) (by nofun) (by nofun) (by nofun) (by nofun) (by nofun) (by nofun) (by nofun) (by nofun) (by nofun) (by nofun) (by nofun) (by nofun) (by nofun)):=by intros; rfl
theorem aUW:type_of% (fun v0 v1 v2 v3 => @opds.eq_26 (Go.Op.typeAssert v0 v1 v2 v3) (by nofun) (by nofun) (by nofun) (by nofun) (by nofun) (by nofun) (by nofun) (by nofun) (by nofun) (by nofun) (by nofun) (by nofun) (by nofun) (by nofun) (by nofun) (by nofun) (by nofun) (by nofun) (by nofun) (by nofun) (by nofun) (by nofun) (by nofun) (by nofun) (by nofun)):=by intros; rfl
theorem aVA:type_of% (fun v0 => @opds.eq_26 (Go.Op.go v0) (by nofun) (by nofun) (by nofun) (by nofun) (by nofun) (by nofun) (by nofun) (by nofun) (by nofun) (by nofun) (by nofun) (by nofun) (by nofun) (by nofun) (by nofun) (by nofun) (by nofun) (by nofun) (by nofun) (by nofun) (by nofun) (by nofun) (by nofun) (by nofun) (by nofun)):=by intros; rfl
theorem aVP:type_of% (fun v0 => @opds.eq_26 (Go.Op.defer v0) (by nofun) (by nofun) (by nofun) (by nofun) (by nofun) (by nofun) (by nofun) (by nofun) (by nofun) (by nofun) (by nofun) (by nofun) (by nofun) (by nofun) (by nofun) (by nofun) (by nofun) (by nofun) (by nofun) (by nofun) (by nofun) (by nofun) (by nofun) (by nofun) (by nofun)):=by intros; rfl
theorem aU9:type_of% (fun v0 => @opds.eq_26 (Go.Op.panic v0) (by nofun) (by nofun) (by nofun) (by nofun) (by nofun) (by nofun) (by nofun) (by nofun) (by nofun) (by nofun) (by nofun) (by nofun) (by nofun) (by nofun) (by nofun) (by nofun) (by nofun) (by nofun) (by nofun) (by nofun) (by nofun) (by nofun) (by nofun) (by nofun) (by nofun)):=by intros; rfl
theorem aSA:type_of% (fun v0 v1 => @opds.eq_26 (Go.Op.send v0 v1) (by nofun) (by nofun) (by nofun) (by nofun) (by nofun) (by nofun) (by nofun) (by nofun) (by nofun) (by nofun) (by nofun) (by nofun) (by nofun) (by nofun) (by nofun) (by nofun) (by nofun) (by nofun) (by nofun) (by nofun) (by nofun) (by nofun) (by nofun) (by nofun) (by nofun)):=by intros; rfl
theorem aWt:type_of% (fun v0 v1 v2 => @opds.eq_26 (Go.Op.recv v0 v1 v2) (by nofun) (by nofun) (by nofun) (by nofun) (by nofun) (by nofun) (by nofun) (by nofun) (by nofun) (by nofun) (by nofun) (by nofun) (by nofun) (by nofun) (by nofun) (by nofun) (by nofun) (by nofun) (by nofun) (by nofun) (by nofun) (by nofun) (by nofun) (by nofun) (by nofun)):=by intros; rfl
theorem aTd:type_of% (fun v0 v1 => @opds.eq_26 (Go.Op.select v0 v1) (by nofun) (by nofun) (by nofun) (by nofun) (by nofun) (by nofun) (by nofun) (by nofun) (by nofun) (by nofun) (by nofun) (by nofun) (by nofun) (by nofun) (by nofun) (by nofun) (by nofun) (by nofun) (by nofun) (by nofun) (by nofun) (by nofun) (by nofun) (by nofun) (by nofun)):=by intros; rfl
theorem aU7:type_of% (fun v0 => @LJ.eq_2 List.nil v0 (by nofun)):=by intros; rfl
theorem aTP:type_of% (fun v0 v1 => @LJ.eq_2 (List.cons v1 List.nil) v0 (by nofun)):=by intros; rfl
theorem aV0:type_of% (fun v0 v1 v2 => @LJ.eq_2 (List.cons v1 (List.cons v2 List.nil)) v0 (by nofun)):=by intros; rfl
theorem aWg:type_of% (fun v0 v1 v2 v3 v4 v5 => @LJ.eq_2 (List.cons v1 (List.cons v2 (List.cons v3 (List.cons v4 v5)))) v0 (by nofun)):=by intros; rfl
theorem aTA:type_of% (fun v0 v1 v2 v3 v4 => @dR.eq_2 v0 v1 (Go.Operand.tmp v4) v2 v3 (by nofun)):=by intros; rfl
theorem aUf:type_of% (fun v0 v1 v2 v3 => @dR.eq_2 v0 v1 (Go.Operand.const v3) v2 (A.d D.undef) (by nofun)):=by intros; rfl
theorem aSQ:type_of% (fun v0 v1 v2 v3 v4 v5 => @dR.eq_2 v0 v1 (Go.Operand.const v3) v2 (A.d (D.int v4 v5)) (by nofun)):=by intros; rfl
theorem aUg:type_of% (fun v0 v1 v2 v3 v4 => @dR.eq_2 v0 v1 (Go.Operand.const v3) v2 (A.d (D.bool v4)) (by nofun)):=by intros; rfl
theorem aVi:type_of% (fun v0 v1 v2 v3 v4 => @dR.eq_2 v0 v1 (Go.Operand.const v3) v2 (A.d (D.str v4)) (by nofun)):=by intros; rfl
theorem aU3:type_of% (fun v0 v1 v2 v3 v4 v5 => @dR.eq_2 v0 v1 (Go.Operand.const v3) v2 (A.d (D.ivs v4 v5)) (by nofun)):=by intros; rfl
theorem aSp:type_of% (fun v0 v1 v2 v3 v4 => @dR.eq_2 v0 v1 (Go.Operand.const v3) v2 (A.d (D.iptr v4)) (by nofun)):=by intros; rfl
theorem aSU:type_of% (fun v0 v1 v2 v3 => @dR.eq_2 v0 v1 (Go.Operand.const v3) v2 (A.d D.nilp) (by nofun)):=by intros; rfl
theorem aTQ:type_of% (fun v0 v1 v2 v3 v4 v5 => @dR.eq_2 v0 v1 (Go.Operand.const v3) v2 (A.d (D.fn v4 v5)) (by nofun)):=by intros; rfl
theorem aVk:type_of% (fun v0 v1 v2 v3 => @dR.eq_2 v0 v1 (Go.Operand.const v3) v2 (A.d D.nilfn) (by nofun)):=by intros; rfl
theorem aVg:type_of% (fun v0 v1 v2 v3 => @dR.eq_2 v0 v1 (Go.Operand.const v3) v2 (A.d D.nili) (by nofun)):=by intros; rfl
theorem aV9:type_of% (fun v0 v1 v2 v3 => @dR.eq_2 v0 v1 (Go.Operand.const v3) v2 (A.d D.nilm) (by nofun)):=by intros; rfl
theorem aTy:type_of% (fun v0 v1 v2 v3 v4 v5 => @dR.eq_2 v0 v1 (Go.Operand.const v3) v2 (A.d (D.ifc v4 v5)) (by nofun)):=by intros; rfl
theorem aT8:type_of% (fun v0 v1 v2 v3 v4 v5 v6 v7 => @dR.eq_2 v0 v1 (Go.Operand.const v3) v2 (A.sl v4 v5 v6 v7) (by nofun)):=by intros; rfl
theorem aT3:type_of% (fun v0 v1 v2 v3 v4 v5 v6 => @dR.eq_2 v0 v1 (Go.Operand.const v3) v2 (A.ptr v4 v5 v6) (by nofun)):=by intros; rfl
theorem aTo:type_of% (fun v0 v1 v2 v3 v4 => @dR.eq_2 v0 v1 (Go.Operand.const v3) v2 (A.mp v4) (by nofun)):=by intros; rfl
theorem aVR:type_of% (fun v0 v1 v2 v3 v4 v5 => @dR.eq_2 v0 v1 (Go.Operand.const v3) v2 (A.clo v4 v5) (by nofun)):=by intros; rfl
theorem aSz:type_of% (fun v0 v1 v2 v3 v4 => @dR.eq_2 v0 v1 (Go.Operand.const v3) v2 (A.agg v4) (by nofun)):=by intros; rfl
theorem aUs:type_of% (fun v0 v1 v2 v3 v4 => @dR.eq_2 v0 v1 (Go.Operand.const v3) v2 (A.tup v4) (by nofun)):=by intros; rfl
theorem aUF:type_of% (fun v0 v1 v2 v3 => @dR.eq_2 v0 v1 (Go.Operand.const v3) v2 A.junk (by nofun)):=by intros; rfl
theorem aTH:type_of% (fun v0 v1 v2 v3 v4 => @dR.eq_2 v0 v1 (Go.Operand.global v4) v2 v3 (by nofun)):=by intros; rfl
theorem aSW:type_of% (fun v0 v1 v2 v3 v4 => @dR.eq_2 v0 v1 (Go.Operand.func v4) v2 v3 (by nofun)):=by intros; rfl
theorem aST:type_of% (fun v0 => @b5.eq_2 (Go.Op.move v0) (by nofun)):=by intros; rfl
theorem aTS:type_of% (fun v0 => @b5.eq_2 (Go.Op.assign v0) (by nofun)):=by intros; rfl
theorem aT9:type_of% (fun v0 v1 v2 => @b5.eq_2 (Go.Op.pick v0 v1 v2) (by nofun)):=by intros; rfl
theorem aUc:type_of% (fun v0 => @b5.eq_2 (Go.Op.alloc v0) (by nofun)):=by intros; rfl
theorem aTO:type_of% (fun v0 v1 => @b5.eq_2 (Go.Op.box v0 v1) (by nofun)):=by intros; rfl
theorem aSv:type_of% (fun v0 v1 => @b5.eq_2 (Go.Op.build v0 v1) (by nofun)):=by intros; rfl
theorem aUj:type_of% (fun v0 v1 v2 => @b5.eq_2 (Go.Op.buildSlice v0 v1 v2) (by nofun)):=by intros; rfl
theorem aWc:type_of% (fun v0 v1 v2 v3 => @b5.eq_2 (Go.Op.insert v0 v1 v2 v3) (by nofun)):=by intros; rfl
theorem aWk:type_of% (fun v0 v1 => @b5.eq_2 (Go.Op.load v0 v1) (by nofun)):=by intros; rfl
theorem aTB:type_of% (fun v0 v1 v2 => @b5.eq_2 (Go.Op.store v0 v1 v2) (by nofun)):=by intros; rfl
theorem aVj:type_of% (fun v0 => @b5.eq_2 (Go.Op.ready v0) (by nofun)):=by intros; rfl
theorem aTc:type_of% (fun v0 => @b5.eq_2 (Go.Op.waits v0) (by nofun)):=by intros; rfl
theorem aVF:type_of% (fun v0 => @b5.eq_2 (Go.Op.nilCheck v0) (by nofun)):=by intros; rfl
theorem aUq:type_of% (fun v0 v1 v2 v3 v4 => @b5.eq_2 (Go.Op.binOp v0 v1 v2 v3 v4) (by nofun)):=by intros; rfl
theorem aWj:type_of% (fun v0 v1 v2 => @b5.eq_2 (Go.Op.unOp v0 v1 v2) (by nofun)):=by intros; rfl
theorem aVu:type_of% (fun v0 v1 v2 => @b5.eq_2 (Go.Op.convert v0 v1 v2) (by nofun)):=by intros; rfl
theorem aSF:type_of% (fun v0 v1 => @b5.eq_2 (Go.Op.sliceToArrayPointer v0 v1) (by nofun)):=by intros; rfl
theorem aTI:type_of% (fun v0 v1 => @b5.eq_2 (Go.Op.makeInterface v0 v1) (by nofun)):=by intros; rfl
theorem aVZ:type_of% (fun v0 v1 v2 => @b5.eq_2 (Go.Op.makeFunc v0 v1 v2) (by nofun)):=by intros; rfl
theorem aVm:type_of% (fun v0 v1 => @b5.eq_2 (Go.Op.makeMap v0 v1) (by nofun)):=by intros; rfl
theorem aSr:type_of% (fun v0 v1 => @b5.eq_2 (Go.Op.makeChan v0 v1) (by nofun)):=by intros; rfl
theorem aVE:type_of% (fun v0 v1 v2 => @b5.eq_2 (Go.Op.makeSlice v0 v1 v2) (by nofun)):=by intros; rfl
theorem aTv:type_of% (fun v0 v1 v2 v3 v4 => @b5.eq_2 (Go.Op.slice v0 v1 v2 v3 v4) (by nofun)):=by intros; rfl
theorem aVy:type_of% (fun v0 v1 v2 => @b5.eq_2 (Go.Op.fieldAddr v0 v1 v2) (by nofun)):=by intros; rfl
theorem aUk:type_of% (fun v0 v1 v2 => @b5.eq_2 (Go.Op.field v0 v1 v2) (by nofun)):=by intros; rfl
theorem aT2:type_of% (fun v0 v1 v2 => @b5.eq_2 (Go.Op.indexAddr v0 v1 v2) (by nofun)):=by intros; rfl
theorem aWo:type_of% (fun v0 v1 v2 => @b5.eq_2 (Go.Op.index v0 v1 v2) (by nofun)):=by intros; rfl
theorem aUl:type_of% (fun v0 v1 v2 v3 => @b5.eq_2 (Go.Op.lookup v0 v1 v2 v3) (by nofun)):=by intros; rfl
theorem aSD:type_of% (fun v0 v1 v2 v3 => @b5.eq_2 (Go.Op.mapUpdate v0 v1 v2 v3) (by nofun)):=by intros; rfl
theorem aTt:type_of% (fun v0 v1 v2 => @b5.eq_2 (Go.Op.mapEntry v0 v1 v2) (by nofun)):=by intros; rfl
theorem aVY:type_of% (fun v0 v1 v2 v3 => @b5.eq_2 (Go.Op.entryStore v0 v1 v2 v3) (by nofun)):=by intros; rfl
theorem aUV:type_of% (fun v0 v1 => @b5.eq_2 (Go.Op.range v0 v1) (by nofun)):=by intros; rfl
theorem aSH:type_of% (fun v0 v1 => @b5.eq_2 (Go.Op.next v0 v1) (by nofun)):=by intros; rfl
theorem aUD:type_of% (fun v0 => @b5.eq_2 (Go.Op.entry v0) (by nofun)):=by intros; rfl
theorem aVo:type_of% (fun v0 v1 v2 v3 => @b5.eq_2 (Go.Op.typeAssert v0 v1 v2 v3) (by nofun)):=by intros; rfl
theorem aS7:type_of% (fun v0 v1 => @b5.eq_2 (Go.Op.extract v0 v1) (by nofun)):=by intros; rfl
theorem aSy:type_of% (fun v0 => @b5.eq_2 (Go.Op.go v0) (by nofun)):=by intros; rfl
theorem aTK:type_of% (fun v0 => @b5.eq_2 (Go.Op.defer v0) (by nofun)):=by intros; rfl
theorem aTe:type_of% (fun v0 => @b5.eq_2 (Go.Op.panic v0) (by nofun)):=by intros; rfl
theorem aTu:type_of% (fun v0 v1 => @b5.eq_2 (Go.Op.send v0 v1) (by nofun)):=by intros; rfl
theorem aV5:type_of% (fun v0 v1 v2 => @b5.eq_2 (Go.Op.recv v0 v1 v2) (by nofun)):=by intros; rfl
theorem aUp:type_of% (fun v0 v1 => @b5.eq_2 (Go.Op.select v0 v1) (by nofun)):=by intros; rfl
theorem aTE:type_of% (fun v0 v1 => @a8.eq_3 v0 (A.d D.undef) v1 (by nofun)):=by intros; rfl
theorem aVh:type_of% (fun v0 v1 v2 v3 => @a8.eq_3 v0 (A.d (D.int v2 v3)) v1 (by nofun)):=by intros; rfl
theorem aVw:type_of% (fun v0 v1 v2 => @a8.eq_3 v0 (A.d (D.bool v2)) v1 (by nofun)):=by intros; rfl
theorem aTg:type_of% (fun v0 v1 v2 => @a8.eq_3 v0 (A.d (D.str v2)) v1 (by nofun)):=by intros; rfl
theorem aTU:type_of% (fun v0 v1 v2 v3 => @a8.eq_3 v0 (A.d (D.ivs v2 v3)) v1 (by nofun)):=by intros; rfl
theorem aVd:type_of% (fun v0 v1 v2 => @a8.eq_3 v0 (A.d (D.iptr v2)) v1 (by nofun)):=by intros; rfl
theorem aTi:type_of% (fun v0 v1 => @a8.eq_3 v0 (A.d D.nilp) v1 (by nofun)):=by intros; rfl
theorem aVB:type_of% (fun v0 v1 v2 v3 => @a8.eq_3 v0 (A.d (D.fn v2 v3)) v1 (by nofun)):=by intros; rfl
theorem aUQ:type_of% (fun v0 v1 => @a8.eq_3 v0 (A.d D.nilfn) v1 (by nofun)):=by intros; rfl
theorem aWr:type_of% (fun v0 v1 => @a8.eq_3 v0 (A.d D.nili) v1 (by nofun)):=by intros; rfl
theorem aV7:type_of% (fun v0 v1 => @a8.eq_3 v0 (A.d D.nilm) v1 (by nofun)):=by intros; rfl
theorem aVM:type_of% (fun v0 v1 v2 v3 => @a8.eq_3 v0 (A.d (D.ifc v2 v3)) v1 (by nofun)):=by intros; rfl
theorem aWd:type_of% (fun v0 v1 v2 v3 v4 v5 => @a8.eq_3 v0 (A.sl v2 v3 v4 v5) v1 (by nofun)):=by intros; rfl
theorem aWi:type_of% (fun v0 v1 v2 v3 v4 => @a8.eq_3 v0 (A.ptr v2 v3 v4) v1 (by nofun)):=by intros; rfl
theorem aUx:type_of% (fun v0 v1 v2 => @a8.eq_3 v0 (A.mp v2) v1 (by nofun)):=by intros; rfl
theorem aTj:type_of% (fun v0 v1 v2 v3 => @a8.eq_3 v0 (A.clo v2 v3) v1 (by nofun)):=by intros; rfl
theorem aVl:type_of% (fun v0 v1 v2 => @a8.eq_3 v0 (A.agg v2) v1 (by nofun)):=by intros; rfl
theorem aUR:type_of% (fun v0 v1 v2 => @a8.eq_3 v0 (A.tup v2) v1 (by nofun)):=by intros; rfl
theorem aUi:type_of% (fun v0 v1 => @a8.eq_3 v0 A.junk v1 (by nofun)):=by intros; rfl
theorem aS4:type_of% (fun v0 v1 v2 v3 => @mapO.eq_3 v0 (O.arr v1 v2 v3) (by nofun) (by nofun)):=by intros; rfl
theorem aUb:type_of% (fun v0 v1 v2 v3 => @mapO.eq_3 v0 (O.ice v1 v2 v3) (by nofun) (by nofun)):=by intros; rfl
theorem aWp:type_of% (fun v0 v1 => @mapO.eq_3 v0 (O.log v1) (by nofun) (by nofun)):=by intros; rfl
theorem aWb:type_of% (fun v0 v1 => @mapO.eq_3 v0 (O.mp v1) (by nofun) (by nofun)):=by intros; rfl
theorem aTn:type_of% (fun v0 => @mapO.eq_3 v0 O.void (by nofun) (by nofun)):=by intros; rfl
theorem aTx:type_of% (fun v0 v1 => @frzA.eq_2 v0 (A.d v1) (by nofun)):=by intros; rfl
theorem aUh:type_of% (fun v0 v1 v2 v3 v4 => @frzA.eq_2 v0 (A.sl v1 v2 v3 v4) (by nofun)):=by intros; rfl
theorem aWm:type_of% (fun v0 v1 v2 v3 => @frzA.eq_2 v0 (A.ptr v1 v2 v3) (by nofun)):=by intros; rfl
theorem aUd:type_of% (fun v0 v1 => @frzA.eq_2 v0 (A.mp v1) (by nofun)):=by intros; rfl
theorem aVe:type_of% (fun v0 v1 v2 => @frzA.eq_2 v0 (A.clo v1 v2) (by nofun)):=by intros; rfl
theorem aTJ:type_of% (fun v0 v1 => @frzA.eq_2 v0 (A.tup v1) (by nofun)):=by intros; rfl
theorem aUN:type_of% (fun v0 => @frzA.eq_2 v0 A.junk (by nofun)):=by intros; rfl
theorem aUK:type_of% (fun v0 v1 v2 v3 v4 v5 v6 => @j7.eq_4 v0 v1 v2 (Go.Callee.invoke v5 v6) v3 v4 (by nofun) (by nofun)):=by intros; rfl
theorem UN0:type_of% (AI @aIJ (AI @aMx (AI @aH3 (AI @aFc (AI @aJI (AI @aN6 (AI @aQQ (AI @aMG (AI @aQR (AI @aIH (AI @aP1 (AI @aLi (AI @aLen.eq_def (AI @aBM (AI @aIW (AI @aIj (AI @aLa (AI @aFp (AI @aDD (AI @aK4 (AI @aFD (AI @aJo (AI @aCz (AI @aBR (AI @aD7 (AI @aMg (AI @aMK (AI @aMF (AI @aMv (AI @aQl (AI @aP2 (AI @aQH (AI @List.replicate.eq_1.{0} (AI @List.replicate.eq_2.{0} (AI @List.range'.eq_1 (AI @List.range'.eq_2 (AI True.intro (AI @GW.eq_1 (AI @GW.eq_2 @X2.eq_1))))))))))))))))))))))))))))))))))))))) :=
 ⟨@aIJ,@aMx,@aH3,@aFc,@aJI,@aN6,@aQQ,@aMG,@aQR,@aIH,@aP1,@aLi,@aLen.eq_def,@aBM,@aIW,@aIj,@aLa,@aFp,@aDD,@aK4,@aFD,@aJo,@aCz,@aBR,@aD7,@aMg,@aMK,@aMF,@aMv,@aQl,@aP2,@aQH,@List.replicate.eq_1.{0},@List.replicate.eq_2.{0},@List.range'.eq_1,@List.range'.eq_2,True.intro,@GW.eq_1,@GW.eq_2,@X2.eq_1⟩
theorem UN1:type_of% (AI @aPut.eq_1 (AI @aPut.eq_2 (AI @kQ.eq_1 (AI @kQ.eq_2 (AI @UNx1 (AI @UNx2 (AI @UNx3 (AI @UNx4 (AI @outA.eq_1 (AI @UNx5 (AI @UNx6 (AI @UNx7 (AI @UNx8 (AI @UNx9 (AI @aYa (AI @aZb (AI @outS.eq_1 (AI @aY7 (AI @aYC (AI @aY1 (AI @aZh (AI @aYY (AI @aXS (AI @aYO (AI @aX3 (AI @aYi (AI @aYL (AI @aXU (AI @aYD (AI @outS.eq_3 (AI @outS.eq_4 (AI @outS.eq_5 (AI @outS.eq_6 (AI @aYu (AI @aYW (AI @aZf (AI @PT.eq_1 (AI @PT.eq_2 (AI @idsA.eq_1 @idsA.eq_2))))))))))))))))))))))))))))))))))))))) :=
 ⟨@aPut.eq_1,@aPut.eq_2,@kQ.eq_1,@kQ.eq_2,@UNx1,@UNx2,@UNx3,@UNx4,@outA.eq_1,@UNx5,@UNx6,@UNx7,@UNx8,@UNx9,@aYa,@aZb,@outS.eq_1,@aY7,@aYC,@aY1,@aZh,@aYY,@aXS,@aYO,@aX3,@aYi,@aYL,@aXU,@aYD,@outS.eq_3,@outS.eq_4,@outS.eq_5,@outS.eq_6,@aYu,@aYW,@aZf,@PT.eq_1,@PT.eq_2,@idsA.eq_1,@idsA.eq_2⟩
theorem UN2:type_of% (AI @idsA.eq_3 (AI @idsA.eq_4 (AI @idsA.eq_5 (AI @idsA.eq_6 (AI @idsA.eq_7 (AI @idsA.eq_8 (AI @idsL.eq_1 (AI @idsL.eq_2 (AI @mapA.eq_1 (AI @mapA.eq_2 (AI @mapA.eq_3 (AI @mapA.eq_4 (AI @mapA.eq_5 (AI @mapA.eq_6 (AI @mapA.eq_7 (AI @mapA.eq_8 (AI @dL.eq_1 (AI @dL.eq_2 (AI @eM.eq_1 (AI @eM.eq_2 (AI @eM.eq_3 (AI @eM.eq_4 (AI @eM.eq_5 (AI @eM.eq_6 (AI @eM.eq_7 (AI @eM.eq_8 (AI @NN.eq_1 (AI @aEp.eq_1 (AI @fN.eq_1 (AI @oN.eq_1 (AI @jV.eq_1 (AI @jV.eq_2 (AI @dI.eq_1 (AI @dI.eq_2 (AI @dI.eq_3 (AI @dI.eq_4 (AI @dI.eq_5 (AI @dI.eq_6 (AI @dI.eq_7 @aW.eq_1))))))))))))))))))))))))))))))))))))))) :=
 ⟨@idsA.eq_3,@idsA.eq_4,@idsA.eq_5,@idsA.eq_6,@idsA.eq_7,@idsA.eq_8,@idsL.eq_1,@idsL.eq_2,@mapA.eq_1,@mapA.eq_2,@mapA.eq_3,@mapA.eq_4,@mapA.eq_5,@mapA.eq_6,@mapA.eq_7,@mapA.eq_8,@dL.eq_1,@dL.eq_2,@eM.eq_1,@eM.eq_2,@eM.eq_3,@eM.eq_4,@eM.eq_5,@eM.eq_6,@eM.eq_7,@eM.eq_8,@NN.eq_1,@aEp.eq_1,@fN.eq_1,@oN.eq_1,@jV.eq_1,@jV.eq_2,@dI.eq_1,@dI.eq_2,@dI.eq_3,@dI.eq_4,@dI.eq_5,@dI.eq_6,@dI.eq_7,@aW.eq_1⟩
theorem UN3:type_of% (AI @aW.eq_2 (AI @tW.eq_1 (AI @tW.eq_2 (AI @tW.eq_3 (AI @aZd (AI @eC.eq_1 (AI @eC.eq_2 (AI @aXY (AI @aZi (AI @aX8 (AI @aZt (AI @aZj (AI @aXL (AI @aYy (AI @aYd (AI @aX4 (AI @aXP (AI @aYb (AI @aX0 (AI @aYN (AI @aZq (AI @aYG (AI @aYp (AI @aYM (AI @aYX (AI @tidy.eq_1 (AI @tidy.eq_2 (AI @aXM (AI @aYo (AI @aYt (AI @dE.eq_1 (AI @aX2 (AI @aYx (AI @aX9 (AI @aY3 (AI @aZo (AI @aY9 (AI @aYP (AI @dE.eq_3 @oG.eq_1))))))))))))))))))))))))))))))))))))))) :=
 ⟨@aW.eq_2,@tW.eq_1,@tW.eq_2,@tW.eq_3,@aZd,@eC.eq_1,@eC.eq_2,@aXY,@aZi,@aX8,@aZt,@aZj,@aXL,@aYy,@aYd,@aX4,@aXP,@aYb,@aX0,@aYN,@aZq,@aYG,@aYp,@aYM,@aYX,@tidy.eq_1,@tidy.eq_2,@aXM,@aYo,@aYt,@dE.eq_1,@aX2,@aYx,@aX9,@aY3,@aZo,@aY9,@aYP,@dE.eq_3,@oG.eq_1⟩
theorem UN4:type_of% (AI @aZn (AI @aYI (AI @aYA (AI @aXZ (AI @aZl (AI @aYV (AI @aYm (AI @wH.eq_1 (AI @zV.eq_1 (AI @aM7.eq_1 (AI @LU.eq_1 (AI @aYf (AI @aYS (AI @aX7 (AI @aYv (AI @aYc (AI @aYs (AI @aX6 (AI @R7.eq_1 (AI @oA.eq_1 (AI @aYR (AI @aZr (AI @aYJ (AI @aYr (AI @aX5 (AI @aYg (AI @aYH (AI @keeps.eq_1 (AI @logs.eq_1 (AI @sD.eq_1 (AI @aY5 (AI @aYZ (AI @aZe (AI @aZg (AI @aXO (AI @aYT (AI @aZa (AI @aXW (AI @EI.eq_1 @eA.eq_1))))))))))))))))))))))))))))))))))))))) :=
 ⟨@aZn,@aYI,@aYA,@aXZ,@aZl,@aYV,@aYm,@wH.eq_1,@zV.eq_1,@aM7.eq_1,@LU.eq_1,@aYf,@aYS,@aX7,@aYv,@aYc,@aYs,@aX6,@R7.eq_1,@oA.eq_1,@aYR,@aZr,@aYJ,@aYr,@aX5,@aYg,@aYH,@keeps.eq_1,@logs.eq_1,@sD.eq_1,@aY5,@aYZ,@aZe,@aZg,@aXO,@aYT,@aZa,@aXW,@EI.eq_1,@eA.eq_1⟩
theorem UN5:type_of% (AI @eA.eq_2 (AI @eA.eq_3 (AI @eA.eq_4 (AI @qN.eq_1 (AI @wV.eq_1 (AI @LV.eq_1 (AI @tT.eq_1 (AI @tT.eq_2 (AI @AG.eq_1 (AI @nA.eq_1 (AI @fH.eq_1 (AI @fH.eq_2 (AI @fH.eq_3 (AI @frzL.eq_1 (AI @iX.eq_1 (AI @iX.eq_2 (AI @frz.eq_1 (AI @frz.eq_2 (AI @frz.eq_3 (AI @frz.eq_4 (AI @aXQ (AI @aYh (AI @aYw (AI @aYE (AI @aYk (AI @frz0.eq_1 (AI @frz0.eq_2 (AI @aZc (AI @aXT (AI @aZk (AI @aXN (AI @aYn (AI @aZm (AI @deep.eq_1 (AI @a6.eq_1 (AI @aY2 (AI @aYQ (AI @aXX (AI @aYB @aSP))))))))))))))))))))))))))))))))))))))) :=
 ⟨@eA.eq_2,@eA.eq_3,@eA.eq_4,@qN.eq_1,@wV.eq_1,@LV.eq_1,@tT.eq_1,@tT.eq_2,@AG.eq_1,@nA.eq_1,@fH.eq_1,@fH.eq_2,@fH.eq_3,@frzL.eq_1,@iX.eq_1,@iX.eq_2,@frz.eq_1,@frz.eq_2,@frz.eq_3,@frz.eq_4,@aXQ,@aYh,@aYw,@aYE,@aYk,@frz0.eq_1,@frz0.eq_2,@aZc,@aXT,@aZk,@aXN,@aYn,@aZm,@deep.eq_1,@a6.eq_1,@aY2,@aYQ,@aXX,@aYB,@aSP⟩
theorem UN6:type_of% (AI @aVa (AI @aVH (AI @eQ.eq_1 (AI @c9.eq_1 (AI @c9.eq_2 (AI @c9.eq_3 (AI @c9.eq_4 (AI @aVC (AI @aT4 (AI @aUH (AI @aTl (AI @aV4 (AI @aS8 (AI @aSs (AI @aTq (AI @aU5 (AI @aWn (AI @aV6 (AI @aS9 (AI @aWq (AI @aUw (AI @aUS (AI @aU1 (AI @pE.eq_1 (AI @aUX (AI @aUA (AI @aUt (AI @aU8 (AI @aS6 (AI @aT6 (AI @aUI (AI @nY.eq_1 (AI @nY.eq_2 (AI @nY.eq_3 (AI @aSn (AI @aUE (AI @aSG (AI @aVG (AI @aVb @qV.eq_1))))))))))))))))))))))))))))))))))))))) :=
 ⟨@aVa,@aVH,@eQ.eq_1,@c9.eq_1,@c9.eq_2,@c9.eq_3,@c9.eq_4,@aVC,@aT4,@aUH,@aTl,@aV4,@aS8,@aSs,@aTq,@aU5,@aWn,@aV6,@aS9,@aWq,@aUw,@aUS,@aU1,@pE.eq_1,@aUX,@aUA,@aUt,@aU8,@aS6,@aT6,@aUI,@nY.eq_1,@nY.eq_2,@nY.eq_3,@aSn,@aUE,@aSG,@aVG,@aVb,@qV.eq_1⟩
theorem UN7:type_of% (AI @qV.eq_2 (AI @KU.eq_1 (AI @KU.eq_2 (AI @IG.eq_1 (AI @IG.eq_2 (AI @tupA.eq_1 (AI @aUB (AI @aUe (AI @lG.eq_1 (AI @lG.eq_2 (AI @lG.eq_3 (AI @lG.eq_4 (AI @AW.eq_1 (AI @AW.eq_2 (AI @opds.eq_1 (AI @opds.eq_2 (AI @opds.eq_3 (AI @opds.eq_4 (AI @opds.eq_5 (AI @opds.eq_6 (AI @opds.eq_7 (AI @opds.eq_8 (AI @opds.eq_9 (AI @opds.eq_10 (AI @opds.eq_11 (AI @opds.eq_12 (AI @opds.eq_13 (AI @opds.eq_14 (AI @opds.eq_15 (AI @opds.eq_16 (AI @opds.eq_17 (AI @opds.eq_18 (AI @opds.eq_19 (AI @opds.eq_20 (AI @opds.eq_21 (AI @opds.eq_22 (AI @opds.eq_23 (AI @opds.eq_24 (AI @aUz @aUJ))))))))))))))))))))))))))))))))))))))) :=
 ⟨@qV.eq_2,@KU.eq_1,@KU.eq_2,@IG.eq_1,@IG.eq_2,@tupA.eq_1,@aUB,@aUe,@lG.eq_1,@lG.eq_2,@lG.eq_3,@lG.eq_4,@AW.eq_1,@AW.eq_2,@opds.eq_1,@opds.eq_2,@opds.eq_3,@opds.eq_4,@opds.eq_5,@opds.eq_6,@opds.eq_7,@opds.eq_8,@opds.eq_9,@opds.eq_10,@opds.eq_11,@opds.eq_12,@opds.eq_13,@opds.eq_14,@opds.eq_15,@opds.eq_16,@opds.eq_17,@opds.eq_18,@opds.eq_19,@opds.eq_20,@opds.eq_21,@opds.eq_22,@opds.eq_23,@opds.eq_24,@aUz,@aUJ⟩
theorem UN8:type_of% (AI @aTY (AI @aTp (AI @aSq (AI @aVn (AI @aT1 (AI @aWs (AI @aTN (AI @aTs (AI @aVU (AI @aUW (AI @aVA (AI @aVP (AI @aU9 (AI @aSA (AI @aWt (AI @aTd (AI @evOp.eq_1 (AI @m3.eq_1 (AI @one.eq_1 (AI @two.eq_1 (AI @LJ.eq_1 (AI @aU7 (AI @aTP (AI @aV0 (AI @aWg (AI @A0.eq_1 (AI @LH.eq_1 (AI @dR.eq_1 (AI @aTA (AI @aUf (AI @aSQ (AI @aUg (AI @aVi (AI @aU3 (AI @aSp (AI @aSU (AI @aTQ (AI @aVk (AI @aVg @aV9))))))))))))))))))))))))))))))))))))))) :=
 ⟨@aTY,@aTp,@aSq,@aVn,@aT1,@aWs,@aTN,@aTs,@aVU,@aUW,@aVA,@aVP,@aU9,@aSA,@aWt,@aTd,@evOp.eq_1,@m3.eq_1,@one.eq_1,@two.eq_1,@LJ.eq_1,@aU7,@aTP,@aV0,@aWg,@A0.eq_1,@LH.eq_1,@dR.eq_1,@aTA,@aUf,@aSQ,@aUg,@aVi,@aU3,@aSp,@aSU,@aTQ,@aVk,@aVg,@aV9⟩
theorem UN9:type_of% (AI @aTy (AI @aT8 (AI @aT3 (AI @aTo (AI @aVR (AI @aSz (AI @aUs (AI @aUF (AI @aTH (AI @aSW (AI @aNew.eq_1 (AI @m9.eq_1 (AI @m9.eq_2 (AI @m9.eq_3 (AI @m9.eq_4 (AI @QY.eq_1 (AI @E4.eq_1 (AI @X3.eq_1 (AI @cX.eq_1 (AI @cX.eq_2 (AI @cX.eq_3 (AI @cX.eq_4 (AI @cX.eq_5 (AI @cX.eq_6 (AI @cX.eq_7 (AI @cX.eq_8 (AI @cX.eq_9 (AI @cX.eq_10 (AI @cX.eq_11 (AI @b5.eq_1 (AI @aST (AI @aTS (AI @aT9 (AI @aUc (AI @aTO (AI @aSv (AI @aUj (AI @aWc (AI @aWk @aTB))))))))))))))))))))))))))))))))))))))) :=
 ⟨@aTy,@aT8,@aT3,@aTo,@aVR,@aSz,@aUs,@aUF,@aTH,@aSW,@aNew.eq_1,@m9.eq_1,@m9.eq_2,@m9.eq_3,@m9.eq_4,@QY.eq_1,@E4.eq_1,@X3.eq_1,@cX.eq_1,@cX.eq_2,@cX.eq_3,@cX.eq_4,@cX.eq_5,@cX.eq_6,@cX.eq_7,@cX.eq_8,@cX.eq_9,@cX.eq_10,@cX.eq_11,@b5.eq_1,@aST,@aTS,@aT9,@aUc,@aTO,@aSv,@aUj,@aWc,@aWk,@aTB⟩
theorem UN10:type_of% (AI @aVj (AI @aTc (AI @aVF (AI @aUq (AI @aWj (AI @aVu (AI @aSF (AI @aTI (AI @aVZ (AI @aVm (AI @aSr (AI @aVE (AI @aTv (AI @aVy (AI @aUk (AI @aT2 (AI @aWo (AI @aUl (AI @aSD (AI @aTt (AI @aVY (AI @aUV (AI @aSH (AI @aUD (AI @aVo (AI @aS7 (AI @aSy (AI @aTK (AI @aTe (AI @aTu (AI @aV5 (AI @aUp (AI @back.eq_1 (AI @b9.eq_1 (AI @b9.eq_2 (AI @b9.eq_3 (AI @aK.eq_1 (AI @closed.eq_1 (AI @oX.eq_1 @a8.eq_1))))))))))))))))))))))))))))))))))))))) :=
 ⟨@aVj,@aTc,@aVF,@aUq,@aWj,@aVu,@aSF,@aTI,@aVZ,@aVm,@aSr,@aVE,@aTv,@aVy,@aUk,@aT2,@aWo,@aUl,@aSD,@aTt,@aVY,@aUV,@aSH,@aUD,@aVo,@aS7,@aSy,@aTK,@aTe,@aTu,@aV5,@aUp,@back.eq_1,@b9.eq_1,@b9.eq_2,@b9.eq_3,@aK.eq_1,@closed.eq_1,@oX.eq_1,@a8.eq_1⟩
theorem UN11:type_of% (AI @a8.eq_2 (AI @aTE (AI @aVh (AI @aVw (AI @aTg (AI @aTU (AI @aVd (AI @aTi (AI @aVB (AI @aUQ (AI @aWr (AI @aV7 (AI @aVM (AI @aWd (AI @aWi (AI @aUx (AI @aTj (AI @aVl (AI @aUR (AI @aUi (AI @aN.eq_1 (AI @aN.eq_2 (AI @pack.eq_1 (AI @mapO.eq_1 (AI @mapO.eq_2 (AI @aS4 (AI @aUb (AI @aWp (AI @aWb (AI @aTn (AI @cA.eq_1 (AI @frzA.eq_1 (AI @aTx (AI @aUh (AI @aWm (AI @aUd (AI @aVe (AI @aTJ (AI @aUN @l6.eq_1))))))))))))))))))))))))))))))))))))))) :=
 ⟨@a8.eq_2,@aTE,@aVh,@aVw,@aTg,@aTU,@aVd,@aTi,@aVB,@aUQ,@aWr,@aV7,@aVM,@aWd,@aWi,@aUx,@aTj,@aVl,@aUR,@aUi,@aN.eq_1,@aN.eq_2,@pack.eq_1,@mapO.eq_1,@mapO.eq_2,@aS4,@aUb,@aWp,@aWb,@aTn,@cA.eq_1,@frzA.eq_1,@aTx,@aUh,@aWm,@aUd,@aVe,@aTJ,@aUN,@l6.eq_1⟩
theorem UN12:type_of% (AI @l6.eq_2 (AI @memD.eq_1 (AI @VK.eq_1 (AI @qI.eq_1 (AI @j7.eq_1 (AI @j7.eq_2 (AI @j7.eq_3 @aUK))))))) :=
 ⟨@l6.eq_2,@memD.eq_1,@VK.eq_1,@qI.eq_1,@j7.eq_1,@j7.eq_2,@j7.eq_3,@aUK⟩
theorem UN:type_of% (AI @UN0 (AI @UN1 (AI @UN2 (AI @UN3 (AI @UN4 (AI @UN5 (AI @UN6 (AI @UN7 (AI @UN8 (AI @UN9 (AI @UN10 (AI @UN11 @UN12)))))))))))) :=
 ⟨@UN0,@UN1,@UN2,@UN3,@UN4,@UN5,@UN6,@UN7,@UN8,@UN9,@UN10,@UN11,@UN12⟩
theorem aYe:type_of% (fun v0 v1 v2 v3 v4 => @slim.eq_9 v0 (Go.Code.rangeFunc v1 v2 v3 v4) (by nofun) (by nofun) (by nofun) (by nofun) (by nofun) (by nofun) (by nofun) (by nofun)):=(fun v0 v1 v2 v3 v4 => @slim.eq_9 v0 (Go.Code.rangeFunc v1 v2 v3 v4) (by nofun) (by nofun) (by nofun) (by nofun) (by nofun) (by nofun) (by nofun) (by nofun))
theorem aYK:type_of% (fun v0 v1 => @slim.eq_9 v0 (Go.Code.scope v1) (by nofun) (by nofun) (by nofun) (by nofun) (by nofun) (by nofun) (by nofun) (by nofun)):=(fun v0 v1 => @slim.eq_9 v0 (Go.Code.scope v1) (by nofun) (by nofun) (by nofun) (by nofun) (by nofun) (by nofun) (by nofun) (by nofun))
theorem aXR:type_of% (fun v0 v1 => @slim.eq_9 v0 (Go.Code.label v1) (by nofun) (by nofun) (by nofun) (by nofun) (by nofun) (by nofun) (by nofun) (by nofun)):=(fun v0 v1 => @slim.eq_9 v0 (Go.Code.label v1) (by nofun) (by nofun) (by nofun) (by nofun) (by nofun) (by nofun) (by nofun) (by nofun))
theorem aXV:type_of% (fun v0 v1 => @slim.eq_9 v0 (Go.Code.goto v1) (by nofun) (by nofun) (by nofun) (by nofun) (by nofun) (by nofun) (by nofun) (by nofun)):=(fun v0 v1 => @slim.eq_9 v0 (Go.Code.goto v1) (by nofun) (by nofun) (by nofun) (by nofun) (by nofun) (by nofun) (by nofun) (by nofun))
theorem aY0:type_of% (fun v0 v1 => @slim.eq_9 v0 (Go.Code.refuse v1) (by nofun) (by nofun) (by nofun) (by nofun) (by nofun) (by nofun) (by nofun) (by nofun)):=(fun v0 v1 => @slim.eq_9 v0 (Go.Code.refuse v1) (by nofun) (by nofun) (by nofun) (by nofun) (by nofun) (by nofun) (by nofun) (by nofun))
theorem aYq:type_of% (@bY.eq_5 Go.Code.skip (by nofun) (by nofun) (by nofun) (by nofun)):=(@bY.eq_5 Go.Code.skip (by nofun) (by nofun) (by nofun) (by nofun))
theorem aY8:type_of% (fun v0 v1 v2 => @bY.eq_5 (Go.Code.region v0 v1 v2) (by nofun) (by nofun) (by nofun) (by nofun)):=(fun v0 v1 v2 => @bY.eq_5 (Go.Code.region v0 v1 v2) (by nofun) (by nofun) (by nofun) (by nofun))
theorem aY6:type_of% (fun v0 v1 v2 v3 => @bY.eq_5 (Go.Code.rangeFunc v0 v1 v2 v3) (by nofun) (by nofun) (by nofun) (by nofun)):=(fun v0 v1 v2 v3 => @bY.eq_5 (Go.Code.rangeFunc v0 v1 v2 v3) (by nofun) (by nofun) (by nofun) (by nofun))
theorem aX1:type_of% (fun v0 => @bY.eq_5 (Go.Code.exit v0) (by nofun) (by nofun) (by nofun) (by nofun)):=(fun v0 => @bY.eq_5 (Go.Code.exit v0) (by nofun) (by nofun) (by nofun) (by nofun))
theorem aUG:type_of% (fun v0 => @bY.eq_5 (Go.Code.scope v0) (by nofun) (by nofun) (by nofun) (by nofun)):=(fun v0 => @bY.eq_5 (Go.Code.scope v0) (by nofun) (by nofun) (by nofun) (by nofun))
theorem aVz:type_of% (fun v0 => @bY.eq_5 (Go.Code.label v0) (by nofun) (by nofun) (by nofun) (by nofun)):=(fun v0 => @bY.eq_5 (Go.Code.label v0) (by nofun) (by nofun) (by nofun) (by nofun))
theorem aSC:type_of% (fun v0 => @bY.eq_5 (Go.Code.goto v0) (by nofun) (by nofun) (by nofun) (by nofun)):=(fun v0 => @bY.eq_5 (Go.Code.goto v0) (by nofun) (by nofun) (by nofun) (by nofun))
theorem aWe:type_of% (@bY.eq_5 Go.Code.ret (by nofun) (by nofun) (by nofun) (by nofun)):=(@bY.eq_5 Go.Code.ret (by nofun) (by nofun) (by nofun) (by nofun))
theorem aTh:type_of% (fun v0 => @bY.eq_5 (Go.Code.refuse v0) (by nofun) (by nofun) (by nofun) (by nofun)):=(fun v0 => @bY.eq_5 (Go.Code.refuse v0) (by nofun) (by nofun) (by nofun) (by nofun))
theorem SLM0:type_of% (AI @Option.getD_some.{0} (AI @List.length_nil.{0} (AI @Nat.add_zero (AI @Nat.zero_add (AI @List.map_cons.{0,0} (AI @List.map_nil.{0,0} (AI @List.getElem?_cons_zero.{0} (AI @List.getElem?_cons_succ.{0} (AI @Option.bind_some.{0,0} (AI @Bool.false_eq_true (AI @if_false.{0} (AI @if_true.{0} (AI @List.length_cons.{0} (AI @List.replicate.eq_1.{0} (AI @List.replicate.eq_2.{0} (AI @List.cons_append.{0} (AI @List.nil_append.{0} (AI @List.append_nil.{0} (AI @List.getD_cons_zero.{0} (AI @List.getD_cons_succ.{0} (AI @bB.eq_1 (AI @bL.eq_1 (AI @lpOf.eq_1 (AI @aX.eq_1 (AI @slim.eq_1 (AI @slim.eq_2 (AI @slim.eq_3 (AI @slim.eq_4 (AI @slim.eq_5 (AI @slim.eq_6 (AI @slim.eq_7 (AI @slim.eq_8 (AI @aYe (AI @aYK (AI @aXR (AI @aXV (AI @aY0 (AI @bY.eq_1 (AI @bY.eq_2 @bY.eq_3))))))))))))))))))))))))))))))))))))))) :=
 ⟨@Option.getD_some.{0},@List.length_nil.{0},@Nat.add_zero,@Nat.zero_add,@List.map_cons.{0,0},@List.map_nil.{0,0},@List.getElem?_cons_zero.{0},@List.getElem?_cons_succ.{0},@Option.bind_some.{0,0},@Bool.false_eq_true,@if_false.{0},@if_true.{0},@List.length_cons.{0},@List.replicate.eq_1.{0},@List.replicate.eq_2.{0},@List.cons_append.{0},@List.nil_append.{0},@List.append_nil.{0},@List.getD_cons_zero.{0},@List.getD_cons_succ.{0},@bB.eq_1,@bL.eq_1,@lpOf.eq_1,@aX.eq_1,@slim.eq_1,@slim.eq_2,@slim.eq_3,@slim.eq_4,@slim.eq_5,@slim.eq_6,@slim.eq_7,@slim.eq_8,@aYe,@aYK,@aXR,@aXV,@aY0,@bY.eq_1,@bY.eq_2,@bY.eq_3⟩
theorem SLM1:type_of% (AI @bY.eq_4 (AI @aYq (AI @aY8 (AI @aY6 (AI @aX1 (AI @aUG (AI @aVz (AI @aSC (AI @aWe (AI @aTh (AI @QA.eq_1 (AI @UX.eq_1 @UX.eq_2)))))))))))) :=
 ⟨@bY.eq_4,@aYq,@aY8,@aY6,@aX1,@aUG,@aVz,@aSC,@aWe,@aTh,@QA.eq_1,@UX.eq_1,@UX.eq_2⟩
theorem SLM:type_of% (AI @SLM0 @SLM1) :=
 ⟨@SLM0,@SLM1⟩
theorem LN:type_of% (AI @List.length_append.{0} (AI @List.length_cons.{0} (AI @List.length_nil.{0} (AI @List.length_set.{0} (AI @List.length_replicate.{0} (AI @List.length_map.{0,0} (AI @List.length_take.{0} @List.length_drop.{0}))))))) :=
 ⟨@List.length_append.{0},@List.length_cons.{0},@List.length_nil.{0},@List.length_set.{0},@List.length_replicate.{0},@List.length_map.{0,0},@List.length_take.{0},@List.length_drop.{0}⟩
theorem GT:type_of% (AI @List.getElem?_cons_zero.{0} @List.getElem?_cons_succ.{0}) :=
 ⟨@List.getElem?_cons_zero.{0},@List.getElem?_cons_succ.{0}⟩
end Ev
end Go.Proofs.YtejmccgfigiadaaGreat
