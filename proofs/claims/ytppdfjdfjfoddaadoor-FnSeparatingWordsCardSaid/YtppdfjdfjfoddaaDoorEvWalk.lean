/-
  How each operation goes, in the form in which the evaluator is walked.
-/
import Derived.Test.YtppdfjdfjfoddaaDoorEvPrim
set_option linter.unusedSimpArgs false
set_option linter.unusedVariables false
namespace Go.Proofs.YtppdfjdfjfoddaaDoor
namespace Ev
section
variable {R:Type} {E:Env} {call:a9} {thaw:List Nat} {dst:Option Tmp} {s:List A} {h:H} {k:A → H → Option R}
structure Now (p:Prop):Prop where
 it:p
structure Shut (p:Prop):Prop where
 it:p
inductive Box (α:Type) where
 | mk (a:α)
 | no
def box {α:Type} (a:α):Box α:=.mk a
theorem aNq {α:Type} {a:α}:box a = .mk a:=rfl
theorem aOy {t:Nat} {q:A → Option R}:kv s (.tmp t) q = match box (s.getD t (.d .undef)) with | .no => none | .mk a => q a:=rfl
theorem aMj {K:IntKind} {n:Int} {q:A → Option R}:kv s (.const (.int K n)) q = q (.d (.int K n)):=rfl
theorem aJ9 {b:Bool} {q:A → Option R}:kv s (.const (.bool b)) q = q (.d (.bool b)):=rfl
theorem aL9 {b:ByteArray} {q:A → Option R}:kv s (.const (.string b)) q = match box b.data.toList with | .no => none | .mk l => q (.d (.str l)):=rfl
theorem aKn {q:A → Option R}:kv s (.const (.pointer none)) q = q (.d .nilp):=rfl
theorem aKy {q:A → Option R}:kv s (.const (.slice none 0 0)) q = q (.d .nils):=rfl
theorem aJW {f:FuncId} {q:A → Option R}:kv s (.func f) q = q (.clo f []):=rfl
theorem aL7 {cs:Array Value} {q:A → Option R}:kv s (.const (.agg cs)) q = match yY cs.toList with
  | some as => q (.agg as)
  | none => none:=by
 unfold kv; simp only [dT,LV]
 cases yY cs.toList <;> rfl
theorem aKe {q:List A → Option R}:kvs s [] q = q []:=rfl
theorem aGW {x:Operand} {xs:List Operand} {q:List A → Option R}:kvs s (x :: xs) q = kv s x fun a => kvs s xs fun as => q (a :: as):=by
 unfold kvs kv
 simp only [cA]
 cases dT s x with
 | none => rfl
 | some a => cases cA s xs <;> rfl
theorem ZV {yes no:List A → Option R}:x8 none s yes no = yes s:=rfl
theorem aAs {t:Nat} {w:Bool} {yes no:List A → Option R}:x8 (some (some t,w)) s yes no = match s.getD t .junk with
  | .d (.bool b) => if b = w then (match box (s.set t (.d (.bool w))) with | .no => none | .mk s => yes s) else (match box (s.set t (.d (.bool (!w)))) with | .no => none | .mk s => no s)
  | .d .undef => no s
  | _ => none:=by
 simp only [x8,List.getD_eq_getElem?_getD]
 cases s[t]? with
 | none => rfl
 | some a =>
  cases a with
  | d x => cases x <;> rfl
  | _ => rfl
theorem aG1 {x:Operand}:kOp E call thaw dst (.move x) s h k = kv s x fun a => k a h:=by
 unfold kOp kvs kv
 simp only [opds,cA]
 cases dT s x <;> rfl
def kAsg (thaw:List Nat) (dst:Option Tmp) (h:H) (k:A → H → Option R) (a:A):Option R :=
 match a with
 | .d .nils => match FE thaw dst with
  | 0 => k (.d .nils) h
  | e + 1 => if e < 1000 then k (.sl h.length 0 0 0) (h ++ [.arr [] e 0]) else k (.sl h.length 0 0 0) (h ++ [.vec [] (e - 1000) 0])
 | a => k a h
theorem Q8 {t:Nat}:kOp E call thaw dst (.assign (.tmp t)) s h k = match box (s.getD t (.d .undef)) with | .no => none | .mk a => k a h:=by
 unfold kOp kvs
 simp only [opds,cA,dT,bY,Bool.false_eq_true,if_false]
 rfl
theorem MM {v:Value}:kOp E call thaw dst (.assign (.const v)) s h k = kv s (.const v) (kAsg thaw dst h k):=by
 unfold kOp kvs kv kAsg
 simp only [opds,cA]
 cases dT s (.const v) with
 | none => rfl
 | some a =>
  simp only [bY,Bool.false_eq_true,if_false,evOp,one,d5,gT]
  cases a with
  | d x =>
   cases x with
   | nils => cases ht:FE thaw dst with
    | zero => simp [ht]
    | succ e => by_cases he:e < 1000 <;> simp [ht,he]
   | _ => rfl
  | _ => rfl
theorem NA {f:FuncId}:kOp E call thaw dst (.assign (.func f)) s h k = k (.clo f []) h:=by
 rfl
def kRet (r:Option (A × H)) (k:A → H → Option R):Option R :=
 match r with
 | some (a,h') => k a h'
 | none => none
theorem aKr {op:BinOp} {t:TypeId} {x y:Operand} {t2:TypeId}:kOp E call thaw dst (.binOp op t x y t2) s h k = kv s x fun a => kv s y fun b => kRet (dM E op t h a b) k:=by
 unfold kOp kvs kv kRet
 simp only [opds,cA]
 cases dT s x with
 | none => rfl
 | some a => cases dT s y <;> rfl
theorem aNn {op:UnOp} {t:TypeId} {x:Operand}:kOp E call thaw dst (.unOp op t x) s h k = kv s x fun a => kRet ((aUn op a).map fun r => (r,h)) k:=by
 unfold kOp kvs kv kRet
 simp only [opds,cA]
 cases dT s x <;> rfl
theorem aIA {c x y:Operand}:kOp E call thaw dst (.pick c x y) s h k = kv s c fun b => kv s x fun a => kv s y fun a' => kRet (QH h [b,a,a']) k:=by
 unfold kOp kvs kv kRet
 simp only [opds,cA]
 cases dT s c with
 | none => rfl
 | some b => cases dT s x with
  | none => rfl
  | some a => cases dT s y <;> rfl
theorem XX {x:Operand}:kOp E call thaw dst (.nilCheck x) s h k = kv s x fun a => kRet (kK h a) k:=by
 unfold kOp kvs kv kRet
 simp only [opds,cA]
 cases dT s x <;> rfl
theorem aIx {t u:TypeId} {x:Operand}:kOp E call thaw dst (.convert t u x) s h k = kv s x fun a => kRet (gO E.P h t u a) k:=by
 unfold kOp kvs kv kRet
 simp only [opds,cA]
 cases dT s x <;> rfl
theorem aHd {t:TypeId} {x:Operand}:kOp E call thaw dst (.load t x) s h k = kv s x fun a => kRet ((EY E.P h t a).map fun v => (v,h)) k:=by
 unfold kOp kvs kv kRet
 simp only [opds,cA]
 cases dT s x <;> rfl
theorem aFt {t:TypeId} {x y:Operand}:kOp E call thaw dst (.store t x y) s h k = kv s x fun a => kv s y fun b => kRet ((m3 E.P h t a b).map fun h' => (.d .undef,h')) k:=by
 unfold kOp kvs kv kRet
 simp only [opds,cA]
 cases dT s x with
 | none => rfl
 | some a => cases dT s y <;> rfl
theorem aE5 {t:TypeId}:kOp E call thaw dst (.alloc t) s h k = match box (bS E.P t) with
  | .no => none
  | .mk none => none
  | .mk (some z) => kRet (aNew h z) k:=by
 unfold kOp kvs kRet
 simp only [opds,cA,bY,Bool.false_eq_true,if_false,evOp,gT,box]
 cases bS E.P t <;> rfl
theorem aKt {t:TypeId} {x:Operand}:kOp E call thaw dst (.box t x) s h k = kv s x fun a => kRet (aNew h a) k:=by
 unfold kOp kvs kv kRet
 simp only [opds,cA]
 cases dT s x <;> rfl
theorem aFx {t:TypeId} {ps:List (Nat × Operand)}:kOp E call thaw dst (.build t ps.toArray) s h k = match box (ps.map (·.2)) with
  | .no => none
  | .mk xs => kvs s xs fun vs => kRet ((gJ E.P t ((ps.map (·.1)).zip vs)).map fun a => (a,h)) k:=by
 unfold kOp kRet
 rfl
theorem QO {t:TypeId} {n:Nat} {ps:List (Nat × Operand)}:kOp E call thaw dst (.buildSlice t n ps.toArray) s h k = match box (ps.map (·.2)) with
  | .no => none
  | .mk xs => kvs s xs fun vs => kRet (if ER thaw dst = true then u5 E.P h t n ((ps.map (·.1)).zip vs) else tU E.P h t n ((ps.map (·.1)).zip vs)) k:=by
 unfold kOp kRet
 rfl
theorem WE {fn:Fn} {cap:List Operand}:kOp E call thaw dst (.makeFunc fn #[] cap.toArray) s h k = kvs s cap fun vs => kRet (PL h fn true vs) k:=by
 unfold kOp kRet
 rfl
theorem TX {t:TypeId} {x y:Operand}:kOp E call thaw dst (.makeSlice t x y) s h k = kv s x fun a => kv s y fun b => kRet (mH a fun l => mH b fun c => if ER thaw dst = true then J1 E.P h t l c else lT E.P h t l c) k:=by
 unfold kOp kvs kv kRet
 simp only [opds,cA]
 cases dT s x with
 | none => rfl
 | some a => cases dT s y <;> rfl
theorem ZP {t:TypeId} {x:Operand}:kOp E call thaw dst (.slice t x none none none) s h k = kvs s [x] fun vs => kRet (mK E.P h t false false vs) k:=rfl
theorem aAn {t:TypeId} {x lo:Operand}:kOp E call thaw dst (.slice t x (some lo) none none) s h k = kvs s [x,lo] fun vs => kRet (mK E.P h t true false vs) k:=rfl
theorem Z3 {t:TypeId} {x hi:Operand}:kOp E call thaw dst (.slice t x none (some hi) none) s h k = kvs s [x,hi] fun vs => kRet (mK E.P h t false true vs) k:=rfl
theorem aAA {t:TypeId} {x lo hi:Operand}:kOp E call thaw dst (.slice t x (some lo) (some hi) none) s h k = kvs s [x,lo,hi] fun vs => kRet (mK E.P h t true true vs) k:=rfl
theorem SW {t:TypeId} {x:Operand} {f:Nat}:kOp E call thaw dst (.fieldAddr t x f) s h k = kv s x fun a => kRet ((bD E.P t f).bind fun r => (v8 r.1 a).map fun r => (r,h)) k:=by
 unfold kOp kvs kv kRet
 simp only [opds,cA]
 cases dT s x <;> rfl
theorem aEC {t:TypeId} {x:Operand} {f:Nat}:kOp E call thaw dst (.field t x f) s h k = kv s x fun a => kRet (IT E.P h t f a) k:=by
 unfold kOp kvs kv kRet
 simp only [opds,cA]
 cases dT s x <;> rfl
theorem TC {t:TypeId} {x y:Operand}:kOp E call thaw dst (.indexAddr t x y) s h k = kv s x fun a => kv s y fun b => kRet (mH b fun i => (sP E.P h t a i).map fun r => (r,h)) k:=by
 unfold kOp kvs kv kRet
 simp only [opds,cA]
 cases dT s x with
 | none => rfl
 | some a => cases dT s y <;> rfl
theorem aEM {t:TypeId} {x y:Operand}:kOp E call thaw dst (.index t x y) s h k = kv s x fun a => kv s y fun b => kRet (mH b fun i => (PN E.P t a i).map fun r => (r,h)) k:=by
 unfold kOp kvs kv kRet
 simp only [opds,cA]
 cases dT s x with
 | none => rfl
 | some a => cases dT s y <;> rfl
theorem aAm {t:TypeId}:kOp E call thaw dst (.makeMap t none) s h k = k (.mp h.length) (h ++ [.mp []]):=rfl
theorem aDc {t:TypeId} {x y:Operand} {ok:Bool}:kOp E call thaw dst (.lookup t x y ok) s h k = kv s x fun a => kv s y fun b => kRet (zS E.P h t ok a b) k:=by
 unfold kOp kvs kv kRet
 simp only [opds,cA]
 cases dT s x with
 | none => rfl
 | some a => cases dT s y <;> rfl
theorem TP {t:TypeId} {x y z:Operand}:kOp E call thaw dst (.mapUpdate t x y z) s h k = kv s x fun a => kv s y fun b => kv s z fun c => kRet (qL E.P h t a b c) k:=by
 unfold kOp kvs kv kRet
 simp only [opds,cA]
 cases dT s x with
 | none => rfl
 | some a => cases dT s y with
  | none => rfl
  | some b => cases dT s z <;> rfl
theorem Z5 {x:Operand} {i:Nat}:kOp E call thaw dst (.extract x i) s h k = kv s x fun a => kRet (z7 h i a) k:=by
 unfold kOp kvs kv kRet
 simp only [opds,cA]
 cases dT s x <;> rfl
theorem aAu {b:Builtin} {args:List Operand} {tys:List TypeId}:kOp E call thaw dst (.call ⟨.builtin b,args.toArray,tys.toArray⟩) s h k = kvs s args fun vs => kRet (dE E.P h b tys vs) k:=by
 unfold kOp kRet
 rfl
theorem eP {op:Op} {q:A → H → Foot → Option R} (hp:Now (cQ op = true ∧ bY op = false)):kOpD E call thaw dst op s h q = kOp E call thaw dst op s h fun a _ => q a h {}:=by
 obtain ⟨hp,hc⟩:=hp.it
 unfold kOpD kOp kvs
 rw [hp,hc]
 cases cA s (opds op) with
 | none => rfl
 | some vs =>
  simp only [if_true,Bool.false_eq_true,if_false]
def memD (E:Env) (call:a9) (thaw:List Nat) (dst:Option Tmp) (op:Op) (h:H) (vs:List A):Option (A × H × Foot):=match box (aC aE h (idsL vs) []) with
 | .no => none
 | .mk ord => match box (evOp E call thaw (pack h ord) (gT dst op) (aG (aI ord) vs)) with
  | .mk (some (a,h1)) => if ord.length ≤ h1.length ∧ closed h ord (idsL vs) = true then
    (if (fQ E op vs && h1.length - ord.length == 0) = true then some (mapA (back ord h.length h1.length) a,h,{ ids:=ord,ro:=true })
    else some (mapA (back ord h.length h1.length) a,bP (back ord h.length h1.length) h ord h1,{ ids:=ord ++ List.range' h.length (h1.length - ord.length),ro:=false,wr:=wrOf E op vs ord ++ List.range' h.length (h1.length - ord.length) }))
   else none
  | _ => none
theorem gP {op:Op} {q:A → H → Foot → Option R} (hp:Now (cQ op = false ∧ oB op = false)):kOpD E call thaw dst op s h q = match box (opds op) with | .no => none | .mk xs => kvs s xs fun vs => match box (memD E call thaw dst op h vs) with
  | .mk (some (a,h',c)) => q a h' c
  | _ => none:=by
 simp only [box]
 unfold kOpD kvs
 rw [hp.it.1,hp.it.2]
 cases cA s (opds op) with
 | none => rfl
 | some vs =>
  simp only [Bool.false_eq_true,if_false,mF,memD,box]
  cases evOp E call thaw (pack h (aC aE h (idsL vs) [])) (gT dst op) (aG (aI (aC aE h (idsL vs) [])) vs) with
  | none => rfl
  | some r =>
   obtain ⟨a,h1⟩:=r
   by_cases hc:(aC aE h (idsL vs) []).length ≤ h1.length ∧ closed h (aC aE h (idsL vs) []) (idsL vs) = true
   ·simp only [if_pos hc]
    by_cases hr:(fQ E op vs && h1.length - (aC aE h (idsL vs) []).length == 0) = true
    ·simp only [if_pos hr]
    ·simp only [if_neg hr]
   ·simp only [if_neg hc]
theorem FY {op:Op} {q:A → H → Foot → Option R} (hp:Now (cQ op = false ∧ oB op = true ∧ bY op = false)):kOpD E call thaw dst op s h q = kvs s (opds op) fun vs => kOp E call thaw dst op s h fun a _ => q a h { ids:=ids0 vs,ro:=true }:=by
 unfold kOpD kOp kvs
 rw [hp.it.1,hp.it.2.1,hp.it.2.2]
 cases cA s (opds op) with
 | none => rfl
 | some vs => simp only [Bool.false_eq_true,if_false,if_true]
theorem LX {x:Operand} {xs:List Operand} {op:Op} {q:A → H → Foot → Option R} (hx:opds op = x :: xs):(kvs s (opds op) fun vs => kOp E call thaw dst op s h fun a _ => q a h { ids:=ids0 vs,ro:=true }) = kv s x fun b => kOp E call thaw dst op s h fun a _ => q a h { ids:=idsA b,ro:=true }:=by
 unfold kOp kv
 rw [hx]
 unfold kvs
 simp only [cA]
 cases dT s x with
 | none => rfl
 | some b =>
  cases cA s xs with
  | none => rfl
  | some bs => rfl
theorem aEU {t:TypeId} {x:Operand} {q:A → H → Foot → Option R}:kOpD E call thaw dst (.load t x) s h q = kv s x fun b => kOp E call thaw dst (.load t x) s h fun a _ => q a h { ids:=idsA b,ro:=true }:=(FY ⟨rfl,rfl,rfl⟩).trans (LX rfl)
theorem Y6 {t:TypeId} {x y:Operand} {ok:Bool} {q:A → H → Foot → Option R}:kOpD E call thaw dst (.lookup t x y ok) s h q = kv s x fun b => kOp E call thaw dst (.lookup t x y ok) s h fun a _ => q a h { ids:=idsA b,ro:=true }:=(FY ⟨rfl,rfl,rfl⟩).trans (LX rfl)
theorem V6 {t:TypeId} {q:A → H → Foot → Option R}:type_of% (gP (E:=E) (call:=call) (thaw:=thaw) (dst:=dst) (s:=s) (h:=h) (op:=.makeMap t none) (q:=q) ⟨rfl,rfl⟩):=gP ⟨rfl,rfl⟩
theorem QY {t:TypeId} {x y z:Operand} {q:A → H → Foot → Option R}:type_of% (gP (E:=E) (call:=call) (thaw:=thaw) (dst:=dst) (s:=s) (h:=h) (op:=.mapUpdate t x y z) (q:=q) ⟨rfl,rfl⟩):=gP ⟨rfl,rfl⟩
theorem aDv {t:TypeId} {x y:Operand} {q:A → H → Foot → Option R}:type_of% (gP (E:=E) (call:=call) (thaw:=thaw) (dst:=dst) (s:=s) (h:=h) (op:=.store t x y) (q:=q) ⟨rfl,rfl⟩):=gP ⟨rfl,rfl⟩
theorem aAo {x:Operand} {q:A → H → Foot → Option R}:type_of% (gP (E:=E) (call:=call) (thaw:=thaw) (dst:=dst) (s:=s) (h:=h) (op:=.assign x) (q:=q) ⟨rfl,rfl⟩):=gP ⟨rfl,rfl⟩
theorem aB9 {t:TypeId} {q:A → H → Foot → Option R}:type_of% (gP (E:=E) (call:=call) (thaw:=thaw) (dst:=dst) (s:=s) (h:=h) (op:=.alloc t) (q:=q) ⟨rfl,rfl⟩):=gP ⟨rfl,rfl⟩
theorem aHr {t:TypeId} {x:Operand} {q:A → H → Foot → Option R}:type_of% (gP (E:=E) (call:=call) (thaw:=thaw) (dst:=dst) (s:=s) (h:=h) (op:=.box t x) (q:=q) ⟨rfl,rfl⟩):=gP ⟨rfl,rfl⟩
theorem N5 {t:TypeId} {n:Nat} {ps:List (Nat × Operand)} {q:A → H → Foot → Option R}:type_of% (gP (E:=E) (call:=call) (thaw:=thaw) (dst:=dst) (s:=s) (h:=h) (op:=.buildSlice t n ps.toArray) (q:=q) ⟨rfl,rfl⟩):=gP ⟨rfl,rfl⟩
theorem aEJ {t u:TypeId} {x:Operand} {q:A → H → Foot → Option R}:type_of% (gP (E:=E) (call:=call) (thaw:=thaw) (dst:=dst) (s:=s) (h:=h) (op:=.convert t u x) (q:=q) ⟨rfl,rfl⟩):=gP ⟨rfl,rfl⟩
theorem Q3 {t:TypeId} {x y:Operand} {q:A → H → Foot → Option R}:type_of% (gP (E:=E) (call:=call) (thaw:=thaw) (dst:=dst) (s:=s) (h:=h) (op:=.makeSlice t x y) (q:=q) ⟨rfl,rfl⟩):=gP ⟨rfl,rfl⟩
theorem aB1 {t:TypeId} {x:Operand} {lo hi mx:Option Operand} {q:A → H → Foot → Option R}:kOpD E call thaw dst (.slice t x lo hi mx) s h q = kv s x fun b => kOp E call thaw dst (.slice t x lo hi mx) s h fun a _ => q a h { ids:=idsA b,ro:=true }:=(FY ⟨rfl,rfl,rfl⟩).trans (LX rfl)
theorem PX {t:TypeId} {x y:Operand} {q:A → H → Foot → Option R}:kOpD E call thaw dst (.indexAddr t x y) s h q = kv s x fun b => kOp E call thaw dst (.indexAddr t x y) s h fun a _ => q a h { ids:=idsA b,ro:=true }:=(FY ⟨rfl,rfl,rfl⟩).trans (LX rfl)
theorem ZF {args tys:Array _} {q:A → H → Foot → Option R}:type_of% (gP (E:=E) (call:=call) (thaw:=thaw) (dst:=dst) (s:=s) (h:=h) (op:=.call ⟨.builtin .append,args,tys⟩) (q:=q) ⟨rfl,rfl⟩):=gP ⟨rfl,rfl⟩
theorem aIK {x:Operand} {xs:List Operand} {tys:Array _} {q:A → H → Foot → Option R}:kOpD E call thaw dst (.call ⟨.builtin .len,(x :: xs).toArray,tys⟩) s h q = kv s x fun b => kOp E call thaw dst (.call ⟨.builtin .len,(x :: xs).toArray,tys⟩) s h fun a _ => q a h { ids:=idsA b,ro:=true }:=(FY ⟨rfl,rfl,rfl⟩).trans (LX rfl)
theorem aF1 {x:Operand} {q:A → H → Foot → Option R}:type_of% (eP (E:=E) (call:=call) (thaw:=thaw) (dst:=dst) (s:=s) (h:=h) (op:=.move x) (q:=q) ⟨rfl,rfl⟩):=eP ⟨rfl,rfl⟩
theorem aEs {c x y:Operand} {q:A → H → Foot → Option R}:type_of% (eP (E:=E) (call:=call) (thaw:=thaw) (dst:=dst) (s:=s) (h:=h) (op:=.pick c x y) (q:=q) ⟨rfl,rfl⟩):=eP ⟨rfl,rfl⟩
theorem SZ {x:Operand} {q:A → H → Foot → Option R}:type_of% (eP (E:=E) (call:=call) (thaw:=thaw) (dst:=dst) (s:=s) (h:=h) (op:=.nilCheck x) (q:=q) ⟨rfl,rfl⟩):=eP ⟨rfl,rfl⟩
theorem aIy {op:BinOp} {t:TypeId} {x y:Operand} {t2:TypeId} {q:A → H → Foot → Option R}:type_of% (eP (E:=E) (call:=call) (thaw:=thaw) (dst:=dst) (s:=s) (h:=h) (op:=.binOp op t x y t2) (q:=q) ⟨rfl,rfl⟩):=eP ⟨rfl,rfl⟩
theorem aJS {op:UnOp} {t:TypeId} {x:Operand} {q:A → H → Foot → Option R}:type_of% (eP (E:=E) (call:=call) (thaw:=thaw) (dst:=dst) (s:=s) (h:=h) (op:=.unOp op t x) (q:=q) ⟨rfl,rfl⟩):=eP ⟨rfl,rfl⟩
theorem TH {fn:Fn} {first cap:Array Operand} {q:A → H → Foot → Option R}:type_of% (eP (E:=E) (call:=call) (thaw:=thaw) (dst:=dst) (s:=s) (h:=h) (op:=.makeFunc fn first cap) (q:=q) ⟨rfl,rfl⟩):=eP ⟨rfl,rfl⟩
theorem QN {t:TypeId} {x:Operand} {f:Nat} {q:A → H → Foot → Option R}:type_of% (eP (E:=E) (call:=call) (thaw:=thaw) (dst:=dst) (s:=s) (h:=h) (op:=.fieldAddr t x f) (q:=q) ⟨rfl,rfl⟩):=eP ⟨rfl,rfl⟩
theorem aC2 {t:TypeId} {x:Operand} {f:Nat} {q:A → H → Foot → Option R}:type_of% (eP (E:=E) (call:=call) (thaw:=thaw) (dst:=dst) (s:=s) (h:=h) (op:=.field t x f) (q:=q) ⟨rfl,rfl⟩):=eP ⟨rfl,rfl⟩
theorem aDo {t:TypeId} {x y:Operand} {q:A → H → Foot → Option R}:type_of% (eP (E:=E) (call:=call) (thaw:=thaw) (dst:=dst) (s:=s) (h:=h) (op:=.index t x y) (q:=q) ⟨rfl,rfl⟩):=eP ⟨rfl,rfl⟩
theorem VE {x:Operand} {i:Nat} {q:A → H → Foot → Option R}:type_of% (eP (E:=E) (call:=call) (thaw:=thaw) (dst:=dst) (s:=s) (h:=h) (op:=.extract x i) (q:=q) ⟨rfl,rfl⟩):=eP ⟨rfl,rfl⟩
theorem aC3 {t:TypeId} {ps:Array (Nat × Operand)} {q:A → H → Foot → Option R}:type_of% (eP (E:=E) (call:=call) (thaw:=thaw) (dst:=dst) (s:=s) (h:=h) (op:=.build t ps) (q:=q) ⟨rfl,rfl⟩):=eP ⟨rfl,rfl⟩
def aHF (a b:Foot):Bool:=(!a.ro && (!b.ids.isEmpty && a.wr.any b.ids.contains)) || (!b.ro && (!a.ids.isEmpty && b.wr.any a.ids.contains))
theorem aP4 {l:List Nat}:l.any (([]:List Nat)).contains = false:=by
 induction l with
 | nil => rfl
 | cons a l ih => simp [ih]
theorem aGj (a b:Foot):aHF a b = oT a b:=by
 obtain ⟨ia,ra,wa⟩:=a
 obtain ⟨ib,rb,wb⟩:=b
 unfold aHF oT
 cases ia <;> cases ib <;> simp
def iS (ops:List Oper) (cs:List Foot):Bool :=
 let b:=II ops []
 (List.range cs.length).all fun j => (List.range j).all fun i => (b.getD j 0).testBit i || !aHF (cs.getD i {}) (cs.getD j {})
theorem aMf {src:List Oper} {cs:List Foot} (h:sI src cs = true):iS src cs = true:=by
 unfold iS
 simp only [aGj]
 exact h
theorem aBM {src:List Oper} {cs:List Foot} {x:Option R} (hc:Shut (iS src cs = true)):(if sI src cs = true then x else none) = x:=if_pos (by
 have:=hc.it
 unfold iS at this
 simp only [aGj] at this
 exact this)
theorem aHw {q:List A → H → Option R}:kOps E call thaw [] s h q = q s h:=rfl
theorem aFK {op:Op} {g:Option (Option Tmp × Bool)} {os:List SO} {q:List A → H → Option R}:kOps E call thaw (⟨dst,op,g⟩ :: os) s h q = x8 g s
  (fun s => kOp E call thaw dst op s h fun a h' => match box (aPut s dst a) with | .no => none | .mk s' => kOps E call thaw os s' h' q)
  (fun s => match box (aPut s dst (.d .undef)) with | .no => none | .mk s' => kOps E call thaw os s' h q):=rfl
theorem aF3 {cs:List Foot} {q:List A → H → List Foot → Option R}:yO E call thaw [] s h cs q = q s h cs:=rfl
theorem aCn {op:Op} {g:Option (Option Tmp × Bool)} {os:List SO} {cs:List Foot} {q:List A → H → List Foot → Option R}:yO E call thaw (⟨dst,op,g⟩ :: os) s h cs q = x8 g s
  (fun s => kOpD E call thaw dst op s h fun a h' c => match box (aPut s dst a) with | .no => none | .mk s' => yO E call thaw os s' h' (cs ++ [c]) q)
  (fun s => match box (aPut s dst (.d .undef)) with | .no => none | .mk s' => yO E call thaw os s' h (cs ++ [{}]) q):=rfl
section
variable {L nf:Nat} {live:List Bool} {lp:Nat → Code} {q:Exit → List A → H → Option R}
theorem aCZ:aN E call L nf thaw live lp .skip s h q = q .normal s h:=rfl
theorem aF9 {l:List SO}:aN E call L nf thaw live lp (.ops l) s h q = kOps E call thaw l s h fun s h => q .normal s h:=rfl
theorem Y9 {l:List SO} {src:Array Oper}:aN E call L nf thaw live lp (.drawn l src) s h q = yO E call thaw l s h [] fun s h cs => if sI src.toList cs = true then q .normal s h else none:=rfl
theorem aFn {a b:SC}:aN E call L nf thaw live lp (.seq a b) s h q = aN E call L nf thaw live lp a s h fun e s h => match e with
  | .normal => aN E call L nf thaw live lp b s h q
  | e => q e s h:=rfl
theorem aDy {c:Operand} {x y:SC}:aN E call L nf thaw live lp (.cond c x y) s h q = kv s c fun a => match a with
  | .d (.bool b) => if b = true then aN E call L nf thaw live lp x s h q else aN E call L nf thaw live lp y s h q
  | _ => none:=rfl
theorem aAw {id:Nat} {c:SC}:aN E call L nf thaw live lp (.block id c) s h q = aN E call L nf thaw live lp c s h fun e s h => match e with
  | .exit i => if i = id then q .normal s h else q (.exit i) s h
  | e => q e s h:=rfl
theorem aCQ {i:Nat}:aN E call L nf thaw live lp (.loop i) s h q = match box (rF live s) with
  | .no => none
  | .mk m => match box (gc nf m s h) with
   | .mk (s',h') => aO E call L nf thaw live (lp i) m L s' h' q
   | .no => none:=rfl
theorem aCp {id:Nat}:aN E call L nf thaw live lp (.exit id) s h q = q (.exit id) s h:=rfl
theorem aFC:aN E call L nf thaw live lp .ret s h q = q .ret s h:=rfl
theorem VX {c:Code} {m:List Bool} {n:Nat}:b7 E call L nf thaw live c m n q .normal s h = match box (gc nf m s h) with
  | .mk (s',h') => aO E call L nf thaw live c m n s' h' q
  | .no => none:=rfl
theorem aCN {c:Code} {m:List Bool} {n i:Nat}:b7 E call L nf thaw live c m n q (.exit i) s h = match box (gc nf m s h) with
  | .mk (s',h') => q (.exit i) s' h'
  | .no => none:=rfl
theorem aFh {c:Code} {m:List Bool} {n:Nat}:b7 E call L nf thaw live c m n q .ret s h = match box (gc nf m s h) with
  | .mk (s',h') => q .ret s' h'
  | .no => none:=rfl
end
def aL (E:Env) (call:a9) (h:H) (f:FuncId) (args:List A) (k:A → H → Option R):Option R :=
 match dX call E.hint (pack h (aC aE h (idsL args) [])) f (aG (aI (aC aE h (idsL args) [])) args) with
 | some (a,h1) =>
  if (aC aE h (idsL args) []).length ≤ h1.length ∧ closed h (aC aE h (idsL args) []) (idsL args) = true then
   k (mapA (back (aC aE h (idsL args) []) h.length h1.length) a) (bP (back (aC aE h (idsL args) []) h.length h1.length) h (aC aE h (idsL args) []) h1)
  else none
 | none => none
theorem aPN {f:FuncId} {args:List Operand} {tys:Array TypeId}:kOp E call thaw dst (.call ⟨.value (.func f),args.toArray,tys⟩) s h k = kvs s args fun vs => aL E call h f vs k:=by
 unfold kOp kvs aL
 simp only [opds,cA,dT]
 cases cA s args with
 | none => rfl
 | some vs =>
  simp only [bY,if_true,mF,idsL,idsA,List.nil_append,aG,mapA,evOp,fI,jS,gT,List.append_nil]
  cases dX call E.hint (pack h (aC aE h (idsL vs) [])) f (aG (aI (aC aE h (idsL vs) [])) vs) with
  | none => rfl
  | some r =>
   obtain ⟨a,h1⟩:=r
   by_cases c1:(aC aE h (idsL vs) []).length ≤ h1.length <;> by_cases c2:closed h (aC aE h (idsL vs) []) (idsL vs) = true <;> simp [c1,c2]
theorem aGi {f:FuncId} {args:List Operand} {tys:Array TypeId}:kOp E call thaw dst (.call ⟨.value (.func f),args.toArray,tys⟩) s h k = kvs s args fun vs => aL E call h f vs fun a h' => match box h' with | .no => none | .mk h'' => k a h'':=by
 rw [aPN]
 rfl
def A1 (E:Env) (call:a9) (h:H) (f:FuncId) (caps args:List A) (k:A → H → Option R):Option R :=
 match dX call E.hint (pack h (aC aE h (idsL caps ++ idsL args) [])) f (aG (aI (aC aE h (idsL caps ++ idsL args) [])) args ++ aG (aI (aC aE h (idsL caps ++ idsL args) [])) caps) with
 | some (a,h1) =>
  if (aC aE h (idsL caps ++ idsL args) []).length ≤ h1.length ∧ closed h (aC aE h (idsL caps ++ idsL args) []) (idsL caps ++ idsL args) = true then
   k (mapA (back (aC aE h (idsL caps ++ idsL args) []) h.length h1.length) a) (bP (back (aC aE h (idsL caps ++ idsL args) []) h.length h1.length) h (aC aE h (idsL caps ++ idsL args) []) h1)
  else none
 | none => none
def sA (E:Env) (call:a9) (h:H) (g:A) (args:List A) (k:A → H → Option R):Option R :=
 match g with
 | .d (.fn f caps) => aL E call h f (args ++ caps.map .d) k
 | .clo f caps => A1 E call h f caps args k
 | _ => none
theorem bW:∀ (as bs:List A),idsL (as ++ bs) = idsL as ++ idsL bs
 | [],bs => by simp [idsL]
 | a :: as,bs => by simp [idsL,bW as bs]
theorem aHE:∀ (ds:List D),idsL (ds.map .d) = []
 | [] => by simp [idsL]
 | d :: ds => by simp [idsL,idsA,aHE ds]
theorem eX {f:Nat → Option Nat}:∀ (as bs:List A),aG f (as ++ bs) = aG f as ++ aG f bs
 | [],bs => by simp [aG]
 | a :: as,bs => by simp [aG,eX as bs]
theorem aEe {f:Nat → Option Nat}:∀ (ds:List D),aG f (ds.map .d) = ds.map .d
 | [] => by simp [aG]
 | d :: ds => by simp [aG,mapA,aEe ds]
theorem aNC {g:A} {vs:List A} {tys:Array TypeId} {x:Operand} {args:Array Operand}:(match mF E call thaw h (gT dst (.call ⟨.value x,args,tys⟩)) (g :: vs) with
   | some (a,h',_) => k a h'
   | none => none) = sA E call h g vs k:=by
 unfold mF
 simp only [evOp,fI,gT,aG]
 cases g with
 | d y =>
  cases y with
  | fn f caps =>
   simp only [sA,aL,mapA,jS,idsL,idsA,List.nil_append,bW,aHE,List.append_nil,eX,aEe]
   cases dX call E.hint (pack h (aC aE h (idsL vs) [])) f (aG (aI (aC aE h (idsL vs) [])) vs ++ caps.map .d) with
   | none => rfl
   | some r =>
    obtain ⟨a,h1⟩:=r
    by_cases c1:(aC aE h (idsL vs) []).length ≤ h1.length <;> by_cases c2:closed h (aC aE h (idsL vs) []) (idsL vs) = true <;> simp [c1,c2]
  | _ => simp only [sA,mapA,jS]
 | clo f caps =>
  simp only [sA,A1,mapA,jS,idsL,idsA]
  cases dX call E.hint (pack h (aC aE h (idsL caps ++ idsL vs) [])) f (aG (aI (aC aE h (idsL caps ++ idsL vs) [])) vs ++ aG (aI (aC aE h (idsL caps ++ idsL vs) [])) caps) with
  | none => rfl
  | some r =>
   obtain ⟨a,h1⟩:=r
   by_cases c1:(aC aE h (idsL caps ++ idsL vs) []).length ≤ h1.length <;> by_cases c2:closed h (aC aE h (idsL caps ++ idsL vs) []) (idsL caps ++ idsL vs) = true <;> simp [c1,c2]
 | sl id gen off len =>
  simp only [sA,mapA]
  cases aI (aC aE h (idsL (A.sl id gen off len :: vs)) []) id <;> rfl
 | ptr id gen off =>
  simp only [sA,mapA]
  cases aI (aC aE h (idsL (A.ptr id gen off :: vs)) []) id <;> rfl
 | mp id =>
  simp only [sA,mapA]
  cases aI (aC aE h (idsL (A.mp id :: vs)) []) id <;> rfl
 | agg cs => simp only [sA,mapA,jS]
 | tup cs => simp only [sA,mapA,jS]
 | junk => simp only [sA,mapA,jS]
theorem aFO {t:Nat} {args:List Operand} {tys:Array TypeId}:kOp E call thaw dst (.call ⟨.value (.tmp t),args.toArray,tys⟩) s h k = match box (s.getD t (.d .undef)) with
  | .no => none
  | .mk g => kvs s args fun vs => sA E call h g vs k:=by
 unfold kOp kvs
 simp only [opds,cA,dT,box]
 cases cA s args with
 | none => rfl
 | some vs => simp only [bY,if_true]; exact aNC
theorem aFu {f:FuncId} {caps:List D} {vs:List A}:sA E call h (.d (.fn f caps)) vs k = match box (vs ++ caps.map .d) with | .no => none | .mk as' => aL E call h f as' k:=rfl
theorem aBG {f:FuncId} {caps vs:List A}:sA E call h (.clo f caps) vs k = A1 E call h f caps vs k:=rfl
theorem aDf {f:FuncId} {vs:List A}:A1 E call h f [] vs k = aL E call h f vs k:=by
 unfold A1 aL
 simp only [idsL,List.nil_append,aG,List.append_nil]
 rfl
theorem aAT {h:H} {ids:List Nat} {h1:H} {ord:List Nat}:∀ (ord:List Nat) (h h1:H) (f:Nat → Option Nat),ord.length ≤ h1.length → (bP f h ord h1).length = h.length + (h1.length - ord.length)
 | [],h,h1,f,_ => by simp [bP]
 | i :: ord,h,[],f,hl => by simp at hl
 | i :: ord,h,o :: h1,f,hl => by
  simp only [bP,aAT (h:=h) (ids:=ids) (h1:=h1) (ord:=ord) ord _ h1 f (by simpa using hl),List.length_set,List.length_cons]
  omega
def wrC (E:Env) (f:FuncId) (ord:List Nat):List Nat:=if (E.hint f).mode == 3 then [] else ord
def M4 (E:Env) (f:FuncId) (h h':H) (ord:List Nat):Option (H × Foot):=if ((E.hint f).mode == 1 && h'.length - h.length == 0) = true then some (h,{ ids:=ord,ro:=true }) else some (h',{ ids:=ord ++ List.range' h.length (h'.length - h.length),ro:=false,wr:=wrC E f ord ++ List.range' h.length (h'.length - h.length) })
theorem aKY {f:FuncId} {args:List Operand} {tys:Array TypeId} {q:A → H → Foot → Option R}:kOpD E call thaw dst (.call ⟨.value (.func f),args.toArray,tys⟩) s h q = kvs s args fun vs => match box (aC aE h (idsL vs) []) with
  | .no => none
  | .mk ord => aL E call h f vs fun a h' => if ((E.hint f).mode == 1 && h'.length - h.length == 0) = true then q a h { ids:=ord,ro:=true } else q a h' { ids:=ord ++ List.range' h.length (h'.length - h.length),ro:=false,wr:=wrC E f ord ++ List.range' h.length (h'.length - h.length) }:=by
 unfold kOpD kvs aL
 simp only [opds,cA,dT,box]
 cases cA s args with
 | none => rfl
 | some vs =>
  simp only [cQ,oB,Bool.false_eq_true,if_false,mF,idsL,idsA,List.nil_append,aG,mapA,evOp,fI,jS,gT,List.append_nil,fQ]
  cases dX call E.hint (pack h (aC aE h (idsL vs) [])) f (aG (aI (aC aE h (idsL vs) [])) vs) with
  | none => rfl
  | some r =>
   obtain ⟨a,h1⟩:=r
   by_cases c1:(aC aE h (idsL vs) []).length ≤ h1.length
   ·by_cases c2:closed h (aC aE h (idsL vs) []) (idsL vs) = true
    ·have e:=aAT (h:=h) (ids:=idsL vs) (h1:=h1) (ord:=[]) (aC aE h (idsL vs) []) h h1 (back (aC aE h (idsL vs) []) h.length h1.length) c1
     have e2:(bP (back (aC aE h (idsL vs) []) h.length h1.length) h (aC aE h (idsL vs) []) h1).length - h.length = h1.length - (aC aE h (idsL vs) []).length:=by omega
     simp only [c1,c2,and_self,if_true,e2]
     first | done | rfl | (by_cases c3:((E.hint f).mode == 1 && h1.length - (aC aE h (idsL vs) []).length == 0) = true <;> simp [c3])
    ·simp only [c2,and_false,if_false,Bool.false_eq_true]
   ·simp only [c1,false_and,if_false]
theorem W6 {f:FuncId} {args:List Operand} {tys:Array TypeId} {q:A → H → Foot → Option R}:kOpD E call thaw dst (.call ⟨.value (.func f),args.toArray,tys⟩) s h q = kvs s args fun vs => match box (aC aE h (idsL vs) []) with
  | .no => none
  | .mk ord => aL E call h f vs fun a h' => match box (M4 E f h h' ord) with | .mk (some (h'',c)) => q a h'' c | _ => none:=by
 rw [aKY]
 congr 1
 funext vs
 simp only [box]
 congr 1
 funext a h'
 unfold M4
 by_cases hc:((E.hint f).mode == 1 && h'.length - h.length == 0) = true
 ·simp only [if_pos hc]
 ·simp only [if_neg hc]
theorem aI5 {t:Nat} {args:List Operand} {tys:Array TypeId} {q:A → H → Foot → Option R} {f:FuncId} {caps:List D} (hg:Now (s.getD t (.d .undef) = .d (.fn f caps))):kOpD E call thaw dst (.call ⟨.value (.tmp t),args.toArray,tys⟩) s h q = kvs s args fun vs => match box (aC aE h (idsL vs) []) with
  | .no => none
  | .mk ord => aL E call h f (vs ++ caps.map .d) fun a h' => if ((E.hint f).mode == 1 && h'.length - h.length == 0) = true then q a h { ids:=ord,ro:=true } else q a h' { ids:=ord ++ List.range' h.length (h'.length - h.length),ro:=false,wr:=wrC E f ord ++ List.range' h.length (h'.length - h.length) }:=by
 have hg:=hg.it
 unfold kOpD kvs aL
 simp only [opds,cA,dT,box,hg]
 cases cA s args with
 | none => rfl
 | some vs =>
  simp only [cQ,oB,Bool.false_eq_true,if_false,mF,idsL,idsA,List.nil_append,aG,mapA,evOp,fI,jS,gT,List.append_nil,fQ,bW,aHE,eX,aEe]
  cases dX call E.hint (pack h (aC aE h (idsL vs) [])) f (aG (aI (aC aE h (idsL vs) [])) vs ++ caps.map .d) with
  | none => rfl
  | some r =>
   obtain ⟨a,h1⟩:=r
   by_cases c1:(aC aE h (idsL vs) []).length ≤ h1.length
   ·by_cases c2:closed h (aC aE h (idsL vs) []) (idsL vs) = true
    ·have e:=aAT (h:=h) (ids:=idsL vs) (h1:=h1) (ord:=[]) (aC aE h (idsL vs) []) h h1 (back (aC aE h (idsL vs) []) h.length h1.length) c1
     have e2:(bP (back (aC aE h (idsL vs) []) h.length h1.length) h (aC aE h (idsL vs) []) h1).length - h.length = h1.length - (aC aE h (idsL vs) []).length:=by omega
     simp only [c1,c2,and_self,if_true,e2]
     first | done | rfl | (by_cases c3:((E.hint f).mode == 1 && h1.length - (aC aE h (idsL vs) []).length == 0) = true <;> simp [c3])
    ·simp only [c2,and_false,if_false,Bool.false_eq_true]
   ·simp only [c1,false_and,if_false]
def aTe (E:Env) (call:a9) (thaw:List Nat) (dst:Option Tmp) (op:Op) (s:List A) (h:H) (q:A → H → Foot → Option R):Option R:=kOpD E call thaw dst op s h q
theorem aCk {t:Nat} {args:List Operand} {tys:Array TypeId} {q:A → H → Foot → Option R}:kOpD E call thaw dst (.call ⟨.value (.tmp t),args.toArray,tys⟩) s h q = match box (s.getD t (.d .undef)) with
  | .mk (.d (.fn f caps)) => kvs s args fun vs => match box (aC aE h (idsL vs) []) with
   | .no => none
   | .mk ord => match box (vs ++ caps.map .d) with | .no => none | .mk as' => aL E call h f as' fun a h' => match box (M4 E f h h' ord) with | .mk (some (h'',c)) => q a h'' c | _ => none
  | .mk (.clo f []) => kvs s args fun vs => match box (aC aE h (idsL vs) []) with
   | .no => none
   | .mk ord => aL E call h f vs fun a h' => match box (M4 E f h h' ord) with | .mk (some (h'',c)) => q a h'' c | _ => none
  | _ => aTe E call thaw dst (.call ⟨.value (.tmp t),args.toArray,tys⟩) s h q:=by
 have key:=fun (f:FuncId) (caps:List D) hg => aI5 (E:=E) (call:=call) (thaw:=thaw) (dst:=dst) (s:=s) (h:=h) (t:=t) (args:=args) (tys:=tys) (q:=q) (f:=f) (caps:=caps) hg
 have k2:∀ f,s.getD t (.d .undef) = .clo f [] → kOpD E call thaw dst (.call ⟨.value (.tmp t),args.toArray,tys⟩) s h q = kOpD E call thaw dst (.call ⟨.value (.func f),args.toArray,tys⟩) s h q:=by
  intro f hg
  unfold kOpD kvs
  simp only [opds,cA,dT,hg]
  cases cA s args <;> rfl
 have fold:∀ (f:FuncId) (h h':H) (ord:List Nat) (a:A),(if ((E.hint f).mode == 1 && h'.length - h.length == 0) = true then q a h { ids:=ord,ro:=true } else q a h' { ids:=ord ++ List.range' h.length (h'.length - h.length),ro:=false,wr:=wrC E f ord ++ List.range' h.length (h'.length - h.length) }) = match box (M4 E f h h' ord) with | .mk (some (h'',c)) => q a h'' c | _ => none:=by
  intro f h h' ord a
  unfold M4
  by_cases hc:((E.hint f).mode == 1 && h'.length - h.length == 0) = true
  ·simp only [if_pos hc,box]
  ·simp only [if_neg hc,box]
 generalize hs:s.getD t (.d .undef) = a
 cases a with
 | d x =>
  cases x with
  | fn f caps =>
   rw [key f caps ⟨hs⟩]
   simp only [fold]
   rfl
  | _ => rfl
 | clo f caps =>
  cases caps with
  | nil => rw [k2 f hs]; exact W6
  | cons c caps => rfl
 | _ => rfl
theorem RC (n:Nat) (h:H):aC n h [] [] = []:=by cases n <;> rfl
mutual
theorem uM {f:Nat → Option Nat}:∀ a:A,idsA a = [] → mapA f a = a
 | .d x,_ => by simp only [mapA]
 | .sl id gen off len,h => by simp [idsA] at h
 | .ptr id gen off,h => by simp [idsA] at h
 | .mp id,h => by simp [idsA] at h
 | .clo g caps,h => by simp only [idsA] at h; simp only [mapA]; rw [nN caps h]
 | .agg cs,h => by simp only [idsA] at h; simp only [mapA]; rw [nN cs h]
 | .tup cs,h => by simp only [idsA] at h; simp only [mapA]; rw [nN cs h]
 | .junk,_ => by simp only [mapA]
theorem nN {f:Nat → Option Nat}:∀ as:List A,idsL as = [] → aG f as = as
 | [],_ => by simp only [aG]
 | a :: as,h => by
  simp only [idsL,List.append_eq_nil_iff] at h
  simp only [aG]
  rw [uM a h.1,nN as h.2]
end
theorem aNv {a:A} (h:yV a = true):idsA a = []:=by
 cases a with
 | d x => rfl
 | agg cs =>
  simp only [yV] at h
  simp only [idsA]
  induction cs with
  | nil => rfl
  | cons c cs ih =>
   simp only [List.all_cons,Bool.and_eq_true] at h
   simp only [idsL,ih h.2,List.append_nil]
   cases c <;> first | rfl | simp [isD] at h
 | _ => simp [yV] at h
theorem BY:∀ {as:List A},as.all yV = true → idsL as = []
 | [],_ => rfl
 | a :: as,h => by
  simp only [List.all_cons,Bool.and_eq_true] at h
  simp only [idsL,aNv h.1,BY h.2,List.append_nil]
theorem aDG {h:H}:∀ {cs:List A},cs.all isD = true → ∃ ds,frzL h cs = some (ds,h) ∧ ds.map .d = cs
 | [],_ => ⟨[],rfl,rfl⟩
 | c :: cs,hs => by
  simp only [List.all_cons,Bool.and_eq_true] at hs
  obtain ⟨ds,h1,h2⟩:=aDG (h:=h) hs.2
  cases c with
  | d x =>
   refine ⟨x :: ds,?_,by simp [h2]⟩
   unfold frzL at h1 ⊢
   simp only [jC]
   have:frz deep h (.d x) = some (x,h):=rfl
   rw [this]
   simp only [h1]
  | _ => simp [isD] at hs
theorem x9 {h:H}:∀ {as:List A},as.all yV = true → jB h as = some (as,h)
 | [],_ => rfl
 | a :: as,hs => by
  simp only [List.all_cons,Bool.and_eq_true] at hs
  have ha:frzA h a = some (a,h):=by
   cases a with
   | d x => rfl
   | agg cs =>
    obtain ⟨ds,h1,h2⟩:=aDG (h:=h) (cs:=cs) (by simpa only [yV] using hs.1)
    simp only [frzA,h1,h2]
   | _ => simp [yV] at hs
  simp only [jB,ha,x9 hs.2]
theorem aJa {r:A} (h:m6 r = true):qC r = true ∧ mapA (fun k => back [] 0 0 k) r = r:=by
 cases r with
 | d x => cases x <;> first | exact ⟨rfl,rfl⟩ | simp [m6] at h
 | tup vs =>
  simp only [m6] at h
  have key:o9 vs = true ∧ aG (fun k => back [] 0 0 k) vs = vs:=by
   induction vs with
   | nil => exact ⟨rfl,by simp only [aG]⟩
   | cons v vs ih =>
    simp only [List.all_cons,Bool.and_eq_true] at h
    obtain ⟨i1,i2⟩:=ih h.2
    cases v with
    | d x => cases x <;> first | (exfalso; simp at h; done) | (refine ⟨by simp only [o9,qC,AL,i1,Bool.and_self],by simp only [aG,mapA,i2]⟩)
    | _ => simp at h
  exact ⟨by simp only [qC]; exact key.1,by simp only [mapA,key.2]⟩
 | _ => simp [m6] at h
theorem aJz {f:FuncId} {args:List A} {r:A} (hs:args.all yV = true) (hc:call f args [] = some (r,[])) (hp:m6 r = true ∨ ((E.hint f).mode == 1 || (E.hint f).mode == 3) = false):dX call E.hint [] f args = some (r,[]):=by
 unfold dX
 split
 ·exact hc
 ·rename_i hm
  rw [x9 hs]
  simp only [hc]
  rcases hp with hp | hp
  ·rw [hp]; rfl
  ·rw [hm] at hp; cases hp
 ·rename_i hm
  rw [x9 hs]
  simp only [hc]
  rcases hp with hp | hp
  ·obtain ⟨h1,h2⟩:=aJa hp
   rw [h1]
   simp only [List.all_nil,Bool.and_self,if_true,List.length_nil,List.map_nil,List.append_nil]
   exact congrArg (fun x => some (x,([]:H))) h2
  ·rw [hm] at hp; cases hp
 ·rw [x9 hs]
  simp only [hc]
theorem a5 {f:FuncId} {args:List A} {r:A} (hs:args.all yV = true) (hc:call f args [] = some (r,[])) (hr:idsA r = []) (hp:m6 r = true ∨ ((E.hint f).mode == 1 || (E.hint f).mode == 3) = false):aL E call h f args k = k r h:=by
 unfold aL
 rw [BY hs,RC,nN _ (BY hs)]
 have:pack h [] = []:=rfl
 rw [this,aJz hs hc hp]
 simp only [List.length_nil,Nat.le_refl,true_and,closed,List.all_nil,Bool.and_self,if_true,uM r hr,bP,List.map_nil,List.append_nil]
def bL (call:a9) (f:FuncId) (args:List A) (k:A → Option R):Option R :=
 match call f args [] with
 | some (r,[]) => if m6 r = true then k r else none
 | _ => none
theorem fR {f:FuncId} {args:List A} {r:A} {k:A → Option R} (hc:call f args [] = some (r,[])) (hp:m6 r = true):bL call f args k = k r:=by
 unfold bL
 rw [hc]
 simp only [hp,if_true]
theorem aMc {r:A} (h:m6 r = true):idsA r = []:=by
 cases r with
 | d x => rfl
 | tup vs =>
  simp only [m6] at h
  simp only [idsA]
  induction vs with
  | nil => rfl
  | cons v vs ih =>
   simp only [List.all_cons,Bool.and_eq_true] at h
   simp only [idsL,ih h.2,List.append_nil]
   cases v with
   | d x => rfl
   | _ => simp at h
 | _ => simp [m6] at h
theorem aFS (ord:List Nat) (n:Nat):back ord n ord.length = fun k => ord[k]?:=by
 funext k
 unfold back
 split
 ·rfl
 ·rename_i h
  rw [List.getElem?_eq_none (by omega)]
theorem aH1 {h:H} {ord ids:List Nat} (hc:closed h ord ids = true) (hn:ord.Nodup) (hl:∀ i ∈ ord,i < h.length):bP (fun (k:Nat) => ord[k]?) h ord (pack h ord) = h:=by
 apply List.ext_getElem?
 intro id
 rw [ET _ ord h _ id hn hl (by simp [pack])]
 cases hp:aI ord id with
 | none =>
  simp only []
  split
  ·rfl
  ·rename_i hge
   rw [List.getElem?_eq_none (by simp [pack]),List.getElem?_eq_none (by omega)]
   rfl
 | some k =>
  simp only []
  have hm:=NP hp
  obtain ⟨o,ho⟩:∃ o,h[id]? = some o:=⟨h[id]'(hl id hm),List.getElem?_eq_getElem _⟩
  rw [mG (bI hp) ho,ho,Option.map_some,VM hc hm ho]
theorem aJw {f:FuncId} {args:List A} (hm:(E.hint f).mode = 1):aL E call h f args k = match box (aC aE h (idsL args) []) with
  | .no => none
  | .mk ord => match box (jB (pack h ord) (aG (aI ord) args)) with
   | .mk (some (fs,_)) => if closed h ord (idsL args) = true then bL call f fs fun r => k r h else none
   | _ => none:=by
 unfold aL dX
 rw [hm]
 simp only [box]
 cases hf:jB (pack h (aC aE h (idsL args) [])) (aG (aI (aC aE h (idsL args) [])) args) with
 | none => rfl
 | some r =>
  obtain ⟨fs,h1⟩:=r
  simp only [bL]
  cases hc:call f fs [] with
  | none => simp
  | some r =>
   obtain ⟨a,h2⟩:=r
   cases h2 with
   | cons o h2 => simp
   | nil =>
    simp only []
    by_cases hp:m6 a = true
    ·simp only [hp,if_true]
     have hlen:(pack h (aC aE h (idsL args) [])).length = (aC aE h (idsL args) []).length:=by simp [pack]
     simp only [hlen,Nat.le_refl,true_and]
     by_cases hcl:closed h (aC aE h (idsL args) []) (idsL args) = true
     ·simp only [hcl,if_true,aFS,uM a (aMc hp)]
      rw [aH1 hcl (cY aE h (idsL args) [] (by simp)) (oK aE h (idsL args) [] (by simp))]
     ·simp only [hcl,Bool.false_eq_true,if_false]
    ·simp only [hp,Bool.false_eq_true,if_false]
     simp
def cZ (h:H) (args:List A):Option (List A):=match box (aC aE h (idsL args) []) with
 | .no => none
 | .mk ord => match box (jB (pack h ord) (aG (aI ord) args)) with
  | .mk (some (fs,_)) => if closed h ord (idsL args) = true then some fs else none
  | _ => none
theorem aW {f:FuncId} {args:List A} (hm:(E.hint f).mode = 1):aL E call h f args k = match box (cZ h args) with
  | .mk (some fs) => bL call f fs fun r => k r h
  | _ => none:=by
 rw [aJw hm]
 unfold cZ
 simp only [box]
 cases jB (pack h (aC aE h (idsL args) [])) (aG (aI (aC aE h (idsL args) [])) args) with
 | none => rfl
 | some r =>
  obtain ⟨fs,h1⟩:=r
  simp only []
  by_cases hc:closed h (aC aE h (idsL args) []) (idsL args) = true
  ·simp only [if_pos hc]
  ·simp only [if_neg hc]
theorem aJN {nf:Nat} {h:H} {ord:List Nat} {s:List A}:trim nf h ord s = match box (pack h ord) with
  | .mk p => (aS nf p (aG (aI ord) s),eA nf p)
  | .no => ([],[]):=rfl
theorem aQd {nf:Nat} {m:List Bool} {s:List A} {h:H}:gc nf m s h = match box (tidy m s) with
  | .mk s1 => match box (fK nf h (idsL s1)) with
   | .mk ord => trim nf h ord s1
   | .no => ([],[])
  | .no => ([],[]):=rfl
theorem aKh {P:Program} {nf:Nat} {exp:Bool} {rs:List ResultVar} {e:Exit} {s:List A} {h:H}:kFin P nf exp rs e s h =
  if jU e then (match pJ P s h rs with
   | some rs => match rI nf exp h rs with
    | some (xs,h2) => match box (fK nf h2 (idsL xs)) with
     | .mk ord => match box (trim nf h2 ord xs) with
      | .mk r => some (tupA r.1,r.2)
      | .no => none
     | .no => none
    | none => none
   | none => none) else none:=rfl
theorem vZ (nf:Nat) (h:H) (ids:List Nat):fK nf h ids = aC 1099511627776 h (fU (h.take nf) ++ ids) (List.range nf):=rfl
theorem rng0:List.range 0 = []:=rfl
theorem rng1:List.range 1 = [0]:=rfl
theorem rng2:List.range 2 = [0,1]:=rfl
theorem rng3:List.range 3 = [0,1,2]:=rfl
theorem BV (h:H) (ids:List Nat):fK 0 h ids = aC 1099511627776 h ids []:=by
 unfold fK
 simp only [List.take_zero,fU,List.nil_append,List.range_zero]
 rfl
theorem zM (n:Nat) (h:H) (acc:List Nat):aC n h [] acc = acc:=by cases n <;> rfl
theorem sK (n:Nat) (h:H) (i:Nat) (todo acc:List Nat):aC (n + 1) h (i :: todo) acc = if acc.contains i = true then aC n h todo acc
  else match h.getD i .void with
   | .box cs => aC n h (todo ++ idsL cs) (acc ++ [i])
   | .vec cs _ _ => aC n h (todo ++ idsL cs) (acc ++ [i])
   | .void => aC n h todo acc
   | _ => aC n h todo (acc ++ [i]):=by
 simp only [aC,List.getD_eq_getElem?_getD]
 split
 ·rfl
 ·cases h[i]? with
  | none => rfl
  | some o => cases o <;> rfl
theorem aHP {α:Type} {c:Prop} [Decidable c] {a:α} (hc:c):(if c then some a else none) = some a:=if_pos hc
def iAnd (k:IntKind) (a b:Int):Int:=k.wrap (BitVec.ofInt k.bits a &&& BitVec.ofInt k.bits b).toNat
def iOr (k:IntKind) (a b:Int):Int:=k.wrap (BitVec.ofInt k.bits a ||| BitVec.ofInt k.bits b).toNat
def iXor (k:IntKind) (a b:Int):Int:=k.wrap (BitVec.ofInt k.bits a ^^^ BitVec.ofInt k.bits b).toNat
def aSH (k:IntKind) (a b:Int):Int:=k.wrap (BitVec.ofInt k.bits a &&& ~~~BitVec.ofInt k.bits b).toNat
section
variable {t:TypeId} {K:IntKind} {a b:Int}
theorem aFd:dM E .add t h (.d (.int K a)) (.d (.int K b)) = some (.d (.int K (K.wrap (a + b))),h):=by simp [dM,aBin]; rfl
theorem aEt:dM E .sub t h (.d (.int K a)) (.d (.int K b)) = some (.d (.int K (K.wrap (a - b))),h):=by simp [dM,aBin]; rfl
theorem aES:dM E .mul t h (.d (.int K a)) (.d (.int K b)) = some (.d (.int K (K.wrap (a * b))),h):=by simp [dM,aBin]; rfl
theorem aFG:dM E .and t h (.d (.int K a)) (.d (.int K b)) = some (.d (.int K (iAnd K a b)),h):=by simp [dM,aBin]; rfl
theorem aHp:dM E .or t h (.d (.int K a)) (.d (.int K b)) = some (.d (.int K (iOr K a b)),h):=by simp [dM,aBin]; rfl
theorem aGh:dM E .xor t h (.d (.int K a)) (.d (.int K b)) = some (.d (.int K (iXor K a b)),h):=by simp [dM,aBin]; rfl
theorem VG:dM E .andNot t h (.d (.int K a)) (.d (.int K b)) = some (.d (.int K (aSH K a b)),h):=by simp [dM,aBin]; rfl
theorem aEQ:dM E .lss t h (.d (.int K a)) (.d (.int K b)) = some (.d (.bool (decide (a < b))),h):=by simp [dM,aBin]
theorem aF7:dM E .leq t h (.d (.int K a)) (.d (.int K b)) = some (.d (.bool (decide (a ≤ b))),h):=by simp [dM,aBin]
theorem aFv:dM E .gtr t h (.d (.int K a)) (.d (.int K b)) = some (.d (.bool (decide (b < a))),h):=by simp [dM,aBin]
theorem aE2:dM E .geq t h (.d (.int K a)) (.d (.int K b)) = some (.d (.bool (decide (b ≤ a))),h):=by simp [dM,aBin]
theorem aEN:dM E .eql t h (.d (.int K a)) (.d (.int K b)) = some (.d (.bool (decide (a = b))),h):=by simp [dM,aBin]; rfl
theorem aFF:dM E .neq t h (.d (.int K a)) (.d (.int K b)) = some (.d (.bool (!decide (a = b))),h):=by simp [dM,aBin]; rfl
theorem aFz (hb:b ≠ 0):dM E .quo t h (.d (.int K a)) (.d (.int K b)) = some (.d (.int K (K.wrap (a.tdiv b))),h):=by simp [dM,aBin,hb]
theorem aGg (hb:b ≠ 0):dM E .rem t h (.d (.int K a)) (.d (.int K b)) = some (.d (.int K (a.tmod b)),h):=by simp [dM,aBin,hb]
theorem aEx {K2:IntKind} (hb:0 ≤ b):dM E .shl t h (.d (.int K a)) (.d (.int K2 b)) = some (.d (.int K (K.wrap (a * 2 ^ (min b.toNat K.bits)))),h):=by
 have:¬ b < 0:=by omega
 simp [dM,aBin,Op.shift,this]; rfl
theorem aER {K2:IntKind} (hb:0 ≤ b):dM E .shr t h (.d (.int K a)) (.d (.int K2 b)) = some (.d (.int K (a.fdiv (2 ^ (min b.toNat K.bits)))),h):=by
 have:¬ b < 0:=by omega
 simp [dM,aBin,Op.shift,this]; rfl
theorem aJ6 {b:Bool}:aUn .not (.d (.bool b)) = some (.d (.bool (!b))):=rfl
end
end
theorem WD:type_of% (AI @aCZ (AI @aF9 (AI @Y9 (AI @aFn (AI @aDy (AI @aAw (AI @aCQ (AI @aCp (AI @aFC (AI @aHw (AI @aFK (AI @aF3 (AI @aCn (AI @ZV (AI @aAs (AI @aOy (AI @aMj (AI @aJ9 (AI @aL9 (AI @aKy (AI @aKn (AI @aJW (AI @aL7 (AI @aKe (AI @aGW (AI @aG1 (AI @Q8 (AI @MM (AI @NA (AI @aKr (AI @aNn (AI @aIA (AI @XX (AI @aIx (AI @aHd (AI @aFt (AI @aE5 (AI @aKt (AI @aFx (AI @QO (AI @WE (AI @TX (AI @ZP (AI @aAn (AI @Z3 (AI @aAA (AI @SW (AI @aEC (AI @TC (AI @aEM (AI @Z5 (AI @aAu (AI @aGi (AI @aKh (AI @VX (AI @aCN (AI @aFh (AI @aAm (AI @aDc @TP))))))))))))))))))))))))))))))))))))))))))))))))))))))))))) :=
 ⟨@aCZ,@aF9,@Y9,@aFn,@aDy,@aAw,@aCQ,@aCp,@aFC,@aHw,@aFK,@aF3,@aCn,@ZV,@aAs,@aOy,@aMj,@aJ9,@aL9,@aKy,@aKn,@aJW,@aL7,@aKe,@aGW,@aG1,@Q8,@MM,@NA,@aKr,@aNn,@aIA,@XX,@aIx,@aHd,@aFt,@aE5,@aKt,@aFx,@QO,@WE,@TX,@ZP,@aAn,@Z3,@aAA,@SW,@aEC,@TC,@aEM,@Z5,@aAu,@aGi,@aKh,@VX,@aCN,@aFh,@aAm,@aDc,@TP⟩
theorem WDD:type_of% (AI @aEU (AI @aDv (AI @aAo (AI @aB9 (AI @aHr (AI @N5 (AI @aEJ (AI @Q3 (AI @aB1 (AI @PX (AI @ZF (AI @aIK (AI @aF1 (AI @aEs (AI @SZ (AI @aIy (AI @aJS (AI @TH (AI @QN (AI @aC2 (AI @aDo (AI @VE (AI @aC3 (AI @W6 (AI @aFO (AI @aFu (AI @aBG (AI @aDf (AI @Y6 (AI @V6 @QY)))))))))))))))))))))))))))))) :=
 ⟨@aEU,@aDv,@aAo,@aB9,@aHr,@N5,@aEJ,@Q3,@aB1,@PX,@ZF,@aIK,@aF1,@aEs,@SZ,@aIy,@aJS,@TH,@QN,@aC2,@aDo,@VE,@aC3,@W6,@aFO,@aFu,@aBG,@aDf,@Y6,@V6,@QY⟩
theorem WK0:type_of% (AI @aNq (AI @aJ6 (AI @aFd (AI @aEt (AI @aES (AI @aFG (AI @aHp (AI @aGh (AI @VG (AI @aFz (AI @aGg (AI @aEx (AI @aER (AI @aEQ (AI @aF7 (AI @aFv (AI @aE2 (AI @aEN (AI @aFF (AI @ne_eq.{0} (AI @not_true_eq_false (AI @if_false.{0} (AI @if_true.{0} (AI @List.getD_nil.{0} (AI @List.getD_cons_zero.{0} (AI @List.getD_cons_succ.{0} (AI @List.set_cons_zero.{0} (AI @List.set_cons_succ.{0} (AI @aQd @aJN))))))))))))))))))))))))))))) :=
 ⟨@aNq,@aJ6,@aFd,@aEt,@aES,@aFG,@aHp,@aGh,@VG,@aFz,@aGg,@aEx,@aER,@aEQ,@aF7,@aFv,@aE2,@aEN,@aFF,@ne_eq.{0},@not_true_eq_false,@if_false.{0},@if_true.{0},@List.getD_nil.{0},@List.getD_cons_zero.{0},@List.getD_cons_succ.{0},@List.set_cons_zero.{0},@List.set_cons_succ.{0},@aQd,@aJN⟩
theorem WK1:type_of% (AI @Bool.not_true (AI @Bool.not_false (AI @Bool.true_eq_false (AI @Bool.false_eq_true (AI @decide_eq_true_eq (AI @decide_eq_false_iff_not (AI @Option.map_some.{0,0} (AI @Option.bind_some.{0,0} (AI @List.append_nil.{0} (AI @List.nil_append.{0} (AI @List.map_nil.{0,0} (AI @decide_true (AI @decide_false (AI @Bool.not_eq_false' (AI @Bool.not_eq_true' (AI @aHP (AI @Nat.mul_one (AI @Nat.one_mul (AI @Nat.zero_add (AI @Nat.add_zero (AI @List.getElem?_cons_zero.{0} (AI @List.getElem?_cons_succ.{0} (AI @List.length_cons.{0} (AI @List.length_nil.{0} (AI @List.drop_zero.{0} (AI @List.all_cons.{0} (AI @List.all_nil.{0} (AI @Bool.and_self (AI @Bool.and_true @Bool.true_and))))))))))))))))))))))))))))) :=
 ⟨@Bool.not_true,@Bool.not_false,@Bool.true_eq_false,@Bool.false_eq_true,@decide_eq_true_eq,@decide_eq_false_iff_not,@Option.map_some.{0,0},@Option.bind_some.{0,0},@List.append_nil.{0},@List.nil_append.{0},@List.map_nil.{0,0},@decide_true,@decide_false,@Bool.not_eq_false',@Bool.not_eq_true',@aHP,@Nat.mul_one,@Nat.one_mul,@Nat.zero_add,@Nat.add_zero,@List.getElem?_cons_zero.{0},@List.getElem?_cons_succ.{0},@List.length_cons.{0},@List.length_nil.{0},@List.drop_zero.{0},@List.all_cons.{0},@List.all_nil.{0},@Bool.and_self,@Bool.and_true,@Bool.true_and⟩
theorem WK2:type_of% (AI @Bool.false_and (AI @Bool.and_false (AI @List.map_cons.{0,0} (AI @List.zip_cons_cons.{0,0} (AI @List.zip_nil_left.{0,0} (AI @List.flatten_cons.{0} (AI @List.flatten_nil.{0} (AI @List.take_zero.{0} (AI @List.take_nil.{0} (AI @List.drop_nil.{0} (AI @List.cons_append.{0} (AI @Bool.or_self (AI @Bool.or_false (AI @Bool.false_or (AI @Nat.not_lt_zero (AI @and_self (AI @and_true (AI @true_and (AI @Bool.or_true (AI @Bool.true_or (AI @Option.map_none.{0,0} (AI @List.drop_succ_cons.{0} (AI @List.take_succ_cons.{0} (AI @Nat.lt_irrefl (AI @List.head?_cons.{0} (AI @Option.any_some.{0} (AI @List.contains_cons.{0} (AI @List.contains_nil.{0} (AI @BV @vZ))))))))))))))))))))))))))))) :=
 ⟨@Bool.false_and,@Bool.and_false,@List.map_cons.{0,0},@List.zip_cons_cons.{0,0},@List.zip_nil_left.{0,0},@List.flatten_cons.{0},@List.flatten_nil.{0},@List.take_zero.{0},@List.take_nil.{0},@List.drop_nil.{0},@List.cons_append.{0},@Bool.or_self,@Bool.or_false,@Bool.false_or,@Nat.not_lt_zero,@and_self,@and_true,@true_and,@Bool.or_true,@Bool.true_or,@Option.map_none.{0,0},@List.drop_succ_cons.{0},@List.take_succ_cons.{0},@Nat.lt_irrefl,@List.head?_cons.{0},@Option.any_some.{0},@List.contains_cons.{0},@List.contains_nil.{0},@BV,@vZ⟩
theorem WK3:type_of% (AI @rng0 (AI @rng1 (AI @rng2 (AI @rng3 (AI @Option.getD_none.{0} (AI @Option.isNone_none.{0} (AI @Option.isNone_some.{0} (AI @Option.isSome_none.{0} (AI @Option.isSome_some.{0} (AI @zM (AI @sK (AI @beq_self_eq_true.{0} (AI @Nat.succ_ne_self (AI @Nat.zero_ne_one (AI @Nat.one_ne_zero (AI @List.length_append.{0} (AI @false_or (AI @or_false (AI @or_true (AI @true_or (AI @List.take_length.{0} (AI @Option.toList_none.{0} @Option.toList_some.{0})))))))))))))))))))))) :=
 ⟨@rng0,@rng1,@rng2,@rng3,@Option.getD_none.{0},@Option.isNone_none.{0},@Option.isNone_some.{0},@Option.isSome_none.{0},@Option.isSome_some.{0},@zM,@sK,@beq_self_eq_true.{0},@Nat.succ_ne_self,@Nat.zero_ne_one,@Nat.one_ne_zero,@List.length_append.{0},@false_or,@or_false,@or_true,@true_or,@List.take_length.{0},@Option.toList_none.{0},@Option.toList_some.{0}⟩
theorem WK:type_of% (AI @WK0 (AI @WK1 (AI @WK2 @WK3))) :=
 ⟨@WK0,@WK1,@WK2,@WK3⟩
section
variable {E:Env} {vs:List A} {t u:TypeId} {x y:Operand}
theorem ZY:fQ E (.load t x) vs = true:=rfl
theorem VU {a b c:Option Operand}:fQ E (.slice t x a b c) vs = true:=rfl
theorem aFQ:fQ E (.indexAddr t x y) vs = true:=rfl
theorem Y3:fQ E (.convert t u x) vs = (bH E.P u).isNone:=rfl
theorem TM {a:Array Operand} {b:Array TypeId}:fQ E (.call ⟨.builtin .append,a,b⟩) vs = false:=rfl
theorem aB8 {a:Array Operand} {b:Array TypeId}:fQ E (.call ⟨.builtin .len,a,b⟩) vs = true:=rfl
theorem aCz {a:Array Operand} {b:Array TypeId} {f:FuncId} {c:List A}:fQ E (.call ⟨.value x,a,b⟩) (.clo f c :: vs) = ((E.hint f).mode == 1):=rfl
theorem aFZ {a:Array Operand} {b:Array TypeId} {f:FuncId} {c:List D}:fQ E (.call ⟨.value x,a,b⟩) (.d (.fn f c) :: vs) = ((E.hint f).mode == 1):=rfl
theorem aBE:fQ E (.box t x) vs = false:=rfl
theorem WQ:fQ E (.alloc t) vs = false:=rfl
theorem UH:fQ E (.assign x) vs = false:=rfl
theorem WY:fQ E (.store t x y) vs = false:=rfl
theorem aFR {n:Nat} {ps:Array (Nat × Operand)}:fQ E (.buildSlice t n ps) vs = false:=rfl
theorem aEv:fQ E (.makeSlice t x y) vs = false:=rfl
theorem aEr:fQ E (.makeMap t none) vs = false:=rfl
theorem aFe {z:Operand}:fQ E (.mapUpdate t x y z) vs = false:=rfl
theorem aKw {b:Bool}:cQ (.lookup t x y b) = false:=rfl
theorem aKA:cQ (.makeMap t none) = false:=rfl
theorem aKu {z:Operand}:cQ (.mapUpdate t x y z) = false:=rfl
theorem aDK:opds (.alloc t) = []:=rfl
theorem aEO:cQ (.load t x) = false:=rfl
theorem aCX:cQ (.store t x y) = false:=rfl
theorem ZS:cQ (.assign x) = false:=rfl
theorem aBP:cQ (.alloc t) = false:=rfl
theorem aIn:cQ (.box t x) = false:=rfl
theorem aJ8 {n:Nat} {ps:Array (Nat × Operand)}:cQ (.buildSlice t n ps) = false:=rfl
theorem aF6:cQ (.convert t u x) = false:=rfl
theorem aJV:cQ (.makeSlice t x y) = false:=rfl
theorem aDD {a b c:Option Operand}:cQ (.slice t x a b c) = false:=rfl
theorem aKj:cQ (.indexAddr t x y) = false:=rfl
theorem aE8 {c:Call}:cQ (.call c) = false:=rfl
end
theorem UNx1:type_of% (fun v0 => @jU.eq_3 (Go.Exit.exit v0) (by nofun) (by nofun)):=by intros; rfl
theorem UNx2:type_of% (fun v0 => @jU.eq_3 (Go.Exit.goto v0) (by nofun) (by nofun)):=by intros; rfl
theorem UNx3:type_of% (fun v0 => @jU.eq_3 (Go.Exit.panic v0) (by nofun) (by nofun)):=by intros; rfl
theorem UNx4:type_of% (@jU.eq_3 Go.Exit.outgrown (by nofun) (by nofun)):=(@jU.eq_3 Go.Exit.outgrown (by nofun) (by nofun))
theorem UNx5:type_of% (fun v0 v1 v2 v3 => @outA.eq_2 v0 v1 v2 (A.d v3) (by nofun)):=by intros; rfl
theorem UNx6:type_of% (fun v0 v1 v2 v3 v4 v5 v6 => @outA.eq_2 v0 v1 v2 (A.sl v3 v4 v5 v6) (by nofun)):=by intros; rfl
theorem UNx7:type_of% (fun v0 v1 v2 v3 v4 v5 => @outA.eq_2 v0 v1 v2 (A.ptr v3 v4 v5) (by nofun)):=by intros; rfl
theorem UNx8:type_of% (fun v0 v1 v2 v3 => @outA.eq_2 v0 v1 v2 (A.mp v3) (by nofun)):=by intros; rfl
theorem UNx9:type_of% (fun v0 v1 v2 v3 v4 => @outA.eq_2 v0 v1 v2 (A.clo v3 v4) (by nofun)):=by intros; rfl
theorem aRA:type_of% (fun v0 v1 v2 v3 => @outA.eq_2 v0 v1 v2 (A.tup v3) (by nofun)):=by intros; rfl
theorem aQ2:type_of% (fun v0 v1 v2 => @outA.eq_2 v0 v1 v2 A.junk (by nofun)):=by intros; rfl
theorem aRH:type_of% (fun v0 v1 v2 => @outS.eq_2 v0 v1 v2 D.undef (by nofun)):=by intros; rfl
theorem aQ3:type_of% (fun v0 v1 v2 v3 v4 => @outS.eq_2 v0 v1 v2 (D.int v3 v4) (by nofun)):=by intros; rfl
theorem aQ4:type_of% (fun v0 v1 v2 v3 => @outS.eq_2 v0 v1 v2 (D.bool v3) (by nofun)):=by intros; rfl
theorem aRw:type_of% (fun v0 v1 v2 v3 => @outS.eq_2 v0 v1 v2 (D.str v3) (by nofun)):=by intros; rfl
theorem aQR:type_of% (fun v0 v1 v2 v3 v4 => @outS.eq_2 v0 v1 v2 (D.ivs v3 v4) (by nofun)):=by intros; rfl
theorem aRu:type_of% (fun v0 v1 v2 v3 => @outS.eq_2 v0 v1 v2 (D.iptr v3) (by nofun)):=by intros; rfl
theorem aRq:type_of% (fun v0 v1 v2 => @outS.eq_2 v0 v1 v2 D.nilp (by nofun)):=by intros; rfl
theorem aQk:type_of% (fun v0 v1 v2 v3 v4 => @outS.eq_2 v0 v1 v2 (D.fn v3 v4) (by nofun)):=by intros; rfl
theorem aRK:type_of% (fun v0 v1 v2 => @outS.eq_2 v0 v1 v2 D.nilfn (by nofun)):=by intros; rfl
theorem aRs:type_of% (fun v0 v1 v2 => @outS.eq_2 v0 v1 v2 D.nili (by nofun)):=by intros; rfl
theorem aRd:type_of% (fun v0 v1 v2 => @outS.eq_2 v0 v1 v2 D.nilm (by nofun)):=by intros; rfl
theorem aQi:type_of% (fun v0 v1 v2 v3 v4 => @outS.eq_2 v0 v1 v2 (D.ifc v3 v4) (by nofun)):=by intros; rfl
theorem aQY:type_of% (fun v0 v1 v2 v3 v4 => @outS.eq_6 v0 v1 v2 (A.clo v3 v4) (by nofun) (by nofun) (by nofun) (by nofun) (by nofun)):=by intros; rfl
theorem aRp:type_of% (fun v0 v1 v2 v3 => @outS.eq_6 v0 v1 v2 (A.agg v3) (by nofun) (by nofun) (by nofun) (by nofun) (by nofun)):=by intros; rfl
theorem aRC:type_of% (fun v0 v1 v2 v3 => @outS.eq_6 v0 v1 v2 (A.tup v3) (by nofun) (by nofun) (by nofun) (by nofun) (by nofun)):=by intros; rfl
theorem aQA:type_of% (fun v0 v1 v2 => @outS.eq_6 v0 v1 v2 A.junk (by nofun) (by nofun) (by nofun) (by nofun) (by nofun)):=by intros; rfl
theorem aRr:type_of% (fun v0 v1 => @rF.eq_4 (List.cons v0 v1) (by nofun)):=(fun v0 v1 => @rF.eq_4 (List.cons v0 v1) (by nofun))
theorem aP9:type_of% (fun v0 v1 => @eN.eq_3 (A.d (D.int v0 v1)) (by nofun) (by nofun)):=by intros; rfl
theorem aQI:type_of% (fun v0 => @eN.eq_3 (A.d (D.bool v0)) (by nofun) (by nofun)):=by intros; rfl
theorem aRc:type_of% (fun v0 => @eN.eq_3 (A.d (D.str v0)) (by nofun) (by nofun)):=by intros; rfl
theorem aRF:type_of% (fun v0 v1 => @eN.eq_3 (A.d (D.ivs v0 v1)) (by nofun) (by nofun)):=by intros; rfl
theorem aQu:type_of% (@eN.eq_3 (A.d D.nils) (by nofun) (by nofun)):=(@eN.eq_3 (A.d D.nils) (by nofun) (by nofun))
theorem aQp:type_of% (fun v0 => @eN.eq_3 (A.d (D.iptr v0)) (by nofun) (by nofun)):=by intros; rfl
theorem aQb:type_of% (@eN.eq_3 (A.d D.nilp) (by nofun) (by nofun)):=(@eN.eq_3 (A.d D.nilp) (by nofun) (by nofun))
theorem aQj:type_of% (fun v0 v1 => @eN.eq_3 (A.d (D.fn v0 v1)) (by nofun) (by nofun)):=by intros; rfl
theorem aRh:type_of% (@eN.eq_3 (A.d D.nilfn) (by nofun) (by nofun)):=(@eN.eq_3 (A.d D.nilfn) (by nofun) (by nofun))
theorem aQn:type_of% (@eN.eq_3 (A.d D.nili) (by nofun) (by nofun)):=(@eN.eq_3 (A.d D.nili) (by nofun) (by nofun))
theorem aQ0:type_of% (@eN.eq_3 (A.d D.nilm) (by nofun) (by nofun)):=(@eN.eq_3 (A.d D.nilm) (by nofun) (by nofun))
theorem aQH:type_of% (fun v0 v1 => @eN.eq_3 (A.d (D.ifc v0 v1)) (by nofun) (by nofun)):=by intros; rfl
theorem aRO:type_of% (fun v0 v1 v2 v3 => @eN.eq_3 (A.sl v0 v1 v2 v3) (by nofun) (by nofun)):=by intros; rfl
theorem aRk:type_of% (fun v0 v1 v2 => @eN.eq_3 (A.ptr v0 v1 v2) (by nofun) (by nofun)):=by intros; rfl
theorem aQW:type_of% (fun v0 => @eN.eq_3 (A.mp v0) (by nofun) (by nofun)):=by intros; rfl
theorem aRl:type_of% (fun v0 v1 => @eN.eq_3 (A.clo v0 v1) (by nofun) (by nofun)):=by intros; rfl
theorem aQt:type_of% (fun v0 => @eN.eq_3 (A.agg v0) (by nofun) (by nofun)):=by intros; rfl
theorem aQg:type_of% (fun v0 => @eN.eq_3 (A.tup v0) (by nofun) (by nofun)):=by intros; rfl
theorem aRi:type_of% (fun v0 => @tidy.eq_3 List.nil v0 (by nofun) (by nofun)):=by intros; rfl
theorem aQy:type_of% (fun v0 => @tidy.eq_3 (List.cons Bool.false v0) List.nil (by nofun) (by nofun)):=by intros; rfl
theorem aRt:type_of% (fun v0 => @tidy.eq_3 (List.cons Bool.true v0) List.nil (by nofun) (by nofun)):=by intros; rfl
theorem aRe:type_of% (fun v0 v1 v2 v3 v4 => @dE.eq_2 v0 v1 v2 v3 (A.d v4) (by nofun)):=by intros; rfl
theorem aQv:type_of% (fun v0 v1 v2 v3 v4 v5 v6 v7 => @dE.eq_2 v0 v1 v2 v3 (A.sl v4 v5 v6 v7) (by nofun)):=by intros; rfl
theorem aQ8:type_of% (fun v0 v1 v2 v3 v4 v5 v6 => @dE.eq_2 v0 v1 v2 v3 (A.ptr v4 v5 v6) (by nofun)):=by intros; rfl
theorem aQU:type_of% (fun v0 v1 v2 v3 v4 v5 => @dE.eq_2 v0 v1 v2 v3 (A.clo v4 v5) (by nofun)):=by intros; rfl
theorem aRv:type_of% (fun v0 v1 v2 v3 v4 => @dE.eq_2 v0 v1 v2 v3 (A.agg v4) (by nofun)):=by intros; rfl
theorem aQm:type_of% (fun v0 v1 v2 v3 v4 => @dE.eq_2 v0 v1 v2 v3 (A.tup v4) (by nofun)):=by intros; rfl
theorem aQK:type_of% (fun v0 v1 v2 v3 => @dE.eq_2 v0 v1 v2 v3 A.junk (by nofun)):=by intros; rfl
theorem aRJ:type_of% (fun v0 v1 v2 v3 v4 => @kZ.eq_2 v0 v1 v2 (A.d v4) v3 (by nofun)):=by intros; rfl
theorem aQL:type_of% (fun v0 v1 v2 v3 v4 v5 v6 => @kZ.eq_2 v0 v1 v2 (A.ptr v4 v5 v6) v3 (by nofun)):=by intros; rfl
theorem aQr:type_of% (fun v0 v1 v2 v3 v4 => @kZ.eq_2 v0 v1 v2 (A.mp v4) v3 (by nofun)):=by intros; rfl
theorem aQE:type_of% (fun v0 v1 v2 v3 v4 v5 => @kZ.eq_2 v0 v1 v2 (A.clo v4 v5) v3 (by nofun)):=by intros; rfl
theorem aRm:type_of% (fun v0 v1 v2 v3 v4 => @kZ.eq_2 v0 v1 v2 (A.agg v4) v3 (by nofun)):=by intros; rfl
theorem aQx:type_of% (fun v0 v1 v2 v3 v4 => @kZ.eq_2 v0 v1 v2 (A.tup v4) v3 (by nofun)):=by intros; rfl
theorem aRf:type_of% (fun v0 v1 v2 v3 => @kZ.eq_2 v0 v1 v2 A.junk v3 (by nofun)):=by intros; rfl
theorem aQs:type_of% (fun v0 v1 => @yR.eq_2 v0 (A.d v1) (by nofun)):=by intros; rfl
theorem aQ9:type_of% (fun v0 v1 v2 v3 => @yR.eq_2 v0 (A.ptr v1 v2 v3) (by nofun)):=by intros; rfl
theorem aQq:type_of% (fun v0 v1 => @yR.eq_2 v0 (A.mp v1) (by nofun)):=by intros; rfl
theorem aRN:type_of% (fun v0 v1 v2 => @yR.eq_2 v0 (A.clo v1 v2) (by nofun)):=by intros; rfl
theorem aQD:type_of% (fun v0 v1 => @yR.eq_2 v0 (A.agg v1) (by nofun)):=by intros; rfl
theorem aQG:type_of% (fun v0 v1 => @yR.eq_2 v0 (A.tup v1) (by nofun)):=by intros; rfl
theorem aQV:type_of% (fun v0 => @yR.eq_2 v0 A.junk (by nofun)):=by intros; rfl
theorem aRn:type_of% (fun v0 v1 v2 => @kT.eq_2 v0 v1 (A.d v2) (by nofun)):=by intros; rfl
theorem aRa:type_of% (fun v0 v1 v2 v3 v4 => @kT.eq_2 v0 v1 (A.ptr v2 v3 v4) (by nofun)):=by intros; rfl
theorem aQh:type_of% (fun v0 v1 v2 => @kT.eq_2 v0 v1 (A.mp v2) (by nofun)):=by intros; rfl
theorem aQa:type_of% (fun v0 v1 v2 v3 => @kT.eq_2 v0 v1 (A.clo v2 v3) (by nofun)):=by intros; rfl
theorem aQF:type_of% (fun v0 v1 v2 => @kT.eq_2 v0 v1 (A.agg v2) (by nofun)):=by intros; rfl
theorem aQN:type_of% (fun v0 v1 v2 => @kT.eq_2 v0 v1 (A.tup v2) (by nofun)):=by intros; rfl
theorem aQJ:type_of% (fun v0 v1 => @kT.eq_2 v0 v1 A.junk (by nofun)):=by intros; rfl
theorem aQf:type_of% (fun v0 v1 v2 => @frz.eq_5 v0 (A.d v2) v1 (by nofun) (by nofun) (by nofun)):=by intros; rfl
theorem aRx:type_of% (fun v0 v1 v2 => @frz.eq_5 v0 (A.mp v2) v1 (by nofun) (by nofun) (by nofun)):=by intros; rfl
theorem aRG:type_of% (fun v0 v1 v2 => @frz.eq_5 v0 (A.agg v2) v1 (by nofun) (by nofun) (by nofun)):=by intros; rfl
theorem aQe:type_of% (fun v0 v1 v2 => @frz.eq_5 v0 (A.tup v2) v1 (by nofun) (by nofun) (by nofun)):=by intros; rfl
theorem aRD:type_of% (fun v0 v1 => @frz.eq_5 v0 A.junk v1 (by nofun) (by nofun) (by nofun)):=by intros; rfl
theorem aQP:type_of% (fun v0 v1 v2 v3 => @frz0.eq_3 v0 (A.ptr v1 v2 v3) (by nofun) (by nofun)):=by intros; rfl
theorem aQ6:type_of% (fun v0 v1 => @frz0.eq_3 v0 (A.mp v1) (by nofun) (by nofun)):=by intros; rfl
theorem aQc:type_of% (fun v0 v1 v2 => @frz0.eq_3 v0 (A.clo v1 v2) (by nofun) (by nofun)):=by intros; rfl
theorem aQM:type_of% (fun v0 v1 => @frz0.eq_3 v0 (A.agg v1) (by nofun) (by nofun)):=by intros; rfl
theorem aRo:type_of% (fun v0 v1 => @frz0.eq_3 v0 (A.tup v1) (by nofun) (by nofun)):=by intros; rfl
theorem aQz:type_of% (fun v0 => @frz0.eq_3 v0 A.junk (by nofun) (by nofun)):=by intros; rfl
theorem aQ7:type_of% (fun v0 => @aR.eq_2 (A.d v0) (by nofun)):=by intros; rfl
theorem aRg:type_of% (fun v0 v1 v2 v3 => @aR.eq_2 (A.sl v0 v1 v2 v3) (by nofun)):=by intros; rfl
theorem aQ1:type_of% (fun v0 v1 v2 => @aR.eq_2 (A.ptr v0 v1 v2) (by nofun)):=by intros; rfl
theorem aQ5:type_of% (fun v0 => @aR.eq_2 (A.mp v0) (by nofun)):=by intros; rfl
theorem aRL:type_of% (fun v0 v1 => @aR.eq_2 (A.clo v0 v1) (by nofun)):=by intros; rfl
theorem aQo:type_of% (fun v0 => @aR.eq_2 (A.tup v0) (by nofun)):=by intros; rfl
theorem aRy:type_of% (@aR.eq_2 A.junk (by nofun)):=(@aR.eq_2 A.junk (by nofun))
theorem aRI:type_of% (fun v0 v1 => @cW.eq_5 (A.d (D.int v0 v1)) (by nofun) (by nofun) (by nofun) (by nofun)):=by intros; rfl
theorem aP8:type_of% (fun v0 => @cW.eq_5 (A.d (D.bool v0)) (by nofun) (by nofun) (by nofun) (by nofun)):=by intros; rfl
theorem aRb:type_of% (fun v0 => @cW.eq_5 (A.d (D.str v0)) (by nofun) (by nofun) (by nofun) (by nofun)):=by intros; rfl
theorem aRB:type_of% (fun v0 v1 => @cW.eq_5 (A.d (D.ivs v0 v1)) (by nofun) (by nofun) (by nofun) (by nofun)):=by intros; rfl
theorem aNL:type_of% (@cW.eq_5 (A.d D.nils) (by nofun) (by nofun) (by nofun) (by nofun)):=(@cW.eq_5 (A.d D.nils) (by nofun) (by nofun) (by nofun) (by nofun))
theorem aLY:type_of% (fun v0 => @cW.eq_5 (A.d (D.iptr v0)) (by nofun) (by nofun) (by nofun) (by nofun)):=by intros; rfl
theorem aL6:type_of% (@cW.eq_5 (A.d D.nilp) (by nofun) (by nofun) (by nofun) (by nofun)):=(@cW.eq_5 (A.d D.nilp) (by nofun) (by nofun) (by nofun) (by nofun))
theorem aMY:type_of% (fun v0 v1 => @cW.eq_5 (A.d (D.fn v0 v1)) (by nofun) (by nofun) (by nofun) (by nofun)):=by intros; rfl
theorem aOs:type_of% (@cW.eq_5 (A.d D.nilfn) (by nofun) (by nofun) (by nofun) (by nofun)):=(@cW.eq_5 (A.d D.nilfn) (by nofun) (by nofun) (by nofun) (by nofun))
theorem aOp:type_of% (@cW.eq_5 (A.d D.nili) (by nofun) (by nofun) (by nofun) (by nofun)):=(@cW.eq_5 (A.d D.nili) (by nofun) (by nofun) (by nofun) (by nofun))
theorem aMs:type_of% (@cW.eq_5 (A.d D.nilm) (by nofun) (by nofun) (by nofun) (by nofun)):=(@cW.eq_5 (A.d D.nilm) (by nofun) (by nofun) (by nofun) (by nofun))
theorem aNa:type_of% (fun v0 v1 => @cW.eq_5 (A.d (D.ifc v0 v1)) (by nofun) (by nofun) (by nofun) (by nofun)):=by intros; rfl
theorem aMv:type_of% (fun v0 v1 v2 v3 => @cW.eq_5 (A.sl v0 v1 v2 v3) (by nofun) (by nofun) (by nofun) (by nofun)):=by intros; rfl
theorem aMp:type_of% (fun v0 v1 v2 => @cW.eq_5 (A.ptr v0 v1 v2) (by nofun) (by nofun) (by nofun) (by nofun)):=by intros; rfl
theorem aM5:type_of% (fun v0 => @cW.eq_5 (A.mp v0) (by nofun) (by nofun) (by nofun) (by nofun)):=by intros; rfl
theorem aOQ:type_of% (fun v0 v1 => @cW.eq_5 (A.clo v0 v1) (by nofun) (by nofun) (by nofun) (by nofun)):=by intros; rfl
theorem aM6:type_of% (fun v0 => @oJ.eq_2 (A.d v0) (by nofun)):=by intros; rfl
theorem aOt:type_of% (fun v0 v1 v2 v3 => @oJ.eq_2 (A.sl v0 v1 v2 v3) (by nofun)):=by intros; rfl
theorem aNy:type_of% (fun v0 v1 v2 => @oJ.eq_2 (A.ptr v0 v1 v2) (by nofun)):=by intros; rfl
theorem aML:type_of% (fun v0 => @oJ.eq_2 (A.mp v0) (by nofun)):=by intros; rfl
theorem aM1:type_of% (fun v0 v1 => @oJ.eq_2 (A.clo v0 v1) (by nofun)):=by intros; rfl
theorem aLV:type_of% (fun v0 => @oJ.eq_2 (A.agg v0) (by nofun)):=by intros; rfl
theorem aLG:type_of% (fun v0 => @oJ.eq_2 (A.tup v0) (by nofun)):=by intros; rfl
theorem aOK:type_of% (fun v0 v1 v2 v3 => @fU.eq_4 (O.arr v1 v2 v3) v0 (by nofun) (by nofun)):=by intros; rfl
theorem aL4:type_of% (fun v0 v1 v2 v3 => @fU.eq_4 (O.ice v1 v2 v3) v0 (by nofun) (by nofun)):=by intros; rfl
theorem aN6:type_of% (fun v0 v1 => @fU.eq_4 (O.mp v1) v0 (by nofun) (by nofun)):=by intros; rfl
theorem aNA:type_of% (fun v0 => @fU.eq_4 O.void v0 (by nofun) (by nofun)):=by intros; rfl
theorem aN1:type_of% (@tupA.eq_2 List.nil (by nofun)):=(@tupA.eq_2 List.nil (by nofun))
theorem aMx:type_of% (fun v0 v1 v2 => @tupA.eq_2 (List.cons v0 (List.cons v1 v2)) (by nofun)):=by intros; rfl
theorem aMK:type_of% (fun v0 => @EP.eq_2 List.nil v0 (by nofun)):=by intros; rfl
theorem aNz:type_of% (fun v0 v1 => @EP.eq_2 (List.cons v1 List.nil) v0 (by nofun)):=by intros; rfl
theorem aM0:type_of% (fun v0 v1 v2 => @EP.eq_2 (List.cons v1 (List.cons v2 List.nil)) v0 (by nofun)):=by intros; rfl
theorem aMG:type_of% (fun v0 v1 v2 v3 v4 v5 => @EP.eq_2 (List.cons v1 (List.cons v2 (List.cons v3 (List.cons v4 v5)))) v0 (by nofun)):=by intros; rfl
theorem aOh:type_of% (fun v0 v1 v2 v3 v4 => @d5.eq_2 v0 v1 (Go.Operand.tmp v4) v2 v3 (by nofun)):=by intros; rfl
theorem aNj:type_of% (fun v0 v1 v2 v3 => @d5.eq_2 v0 v1 (Go.Operand.const v3) v2 (A.d D.undef) (by nofun)):=by intros; rfl
theorem aOL:type_of% (fun v0 v1 v2 v3 v4 v5 => @d5.eq_2 v0 v1 (Go.Operand.const v3) v2 (A.d (D.int v4 v5)) (by nofun)):=by intros; rfl
theorem aNb:type_of% (fun v0 v1 v2 v3 v4 => @d5.eq_2 v0 v1 (Go.Operand.const v3) v2 (A.d (D.bool v4)) (by nofun)):=by intros; rfl
theorem aNJ:type_of% (fun v0 v1 v2 v3 v4 => @d5.eq_2 v0 v1 (Go.Operand.const v3) v2 (A.d (D.str v4)) (by nofun)):=by intros; rfl
theorem aMS:type_of% (fun v0 v1 v2 v3 v4 v5 => @d5.eq_2 v0 v1 (Go.Operand.const v3) v2 (A.d (D.ivs v4 v5)) (by nofun)):=by intros; rfl
theorem aMW:type_of% (fun v0 v1 v2 v3 v4 => @d5.eq_2 v0 v1 (Go.Operand.const v3) v2 (A.d (D.iptr v4)) (by nofun)):=by intros; rfl
theorem aME:type_of% (fun v0 v1 v2 v3 => @d5.eq_2 v0 v1 (Go.Operand.const v3) v2 (A.d D.nilp) (by nofun)):=by intros; rfl
theorem aL0:type_of% (fun v0 v1 v2 v3 v4 v5 => @d5.eq_2 v0 v1 (Go.Operand.const v3) v2 (A.d (D.fn v4 v5)) (by nofun)):=by intros; rfl
theorem aOl:type_of% (fun v0 v1 v2 v3 => @d5.eq_2 v0 v1 (Go.Operand.const v3) v2 (A.d D.nilfn) (by nofun)):=by intros; rfl
theorem aMt:type_of% (fun v0 v1 v2 v3 => @d5.eq_2 v0 v1 (Go.Operand.const v3) v2 (A.d D.nili) (by nofun)):=by intros; rfl
theorem aNm:type_of% (fun v0 v1 v2 v3 => @d5.eq_2 v0 v1 (Go.Operand.const v3) v2 (A.d D.nilm) (by nofun)):=by intros; rfl
theorem aOA:type_of% (fun v0 v1 v2 v3 v4 v5 => @d5.eq_2 v0 v1 (Go.Operand.const v3) v2 (A.d (D.ifc v4 v5)) (by nofun)):=by intros; rfl
theorem aNV:type_of% (fun v0 v1 v2 v3 v4 v5 v6 v7 => @d5.eq_2 v0 v1 (Go.Operand.const v3) v2 (A.sl v4 v5 v6 v7) (by nofun)):=by intros; rfl
theorem aMu:type_of% (fun v0 v1 v2 v3 v4 v5 v6 => @d5.eq_2 v0 v1 (Go.Operand.const v3) v2 (A.ptr v4 v5 v6) (by nofun)):=by intros; rfl
theorem aLW:type_of% (fun v0 v1 v2 v3 v4 => @d5.eq_2 v0 v1 (Go.Operand.const v3) v2 (A.mp v4) (by nofun)):=by intros; rfl
theorem aMM:type_of% (fun v0 v1 v2 v3 v4 v5 => @d5.eq_2 v0 v1 (Go.Operand.const v3) v2 (A.clo v4 v5) (by nofun)):=by intros; rfl
theorem aOD:type_of% (fun v0 v1 v2 v3 v4 => @d5.eq_2 v0 v1 (Go.Operand.const v3) v2 (A.agg v4) (by nofun)):=by intros; rfl
theorem aOP:type_of% (fun v0 v1 v2 v3 v4 => @d5.eq_2 v0 v1 (Go.Operand.const v3) v2 (A.tup v4) (by nofun)):=by intros; rfl
theorem aM2:type_of% (fun v0 v1 v2 v3 => @d5.eq_2 v0 v1 (Go.Operand.const v3) v2 A.junk (by nofun)):=by intros; rfl
theorem aOd:type_of% (fun v0 v1 v2 v3 v4 => @d5.eq_2 v0 v1 (Go.Operand.global v4) v2 v3 (by nofun)):=by intros; rfl
theorem aNx:type_of% (fun v0 v1 v2 v3 v4 => @d5.eq_2 v0 v1 (Go.Operand.func v4) v2 v3 (by nofun)):=by intros; rfl
theorem aOv:type_of% (fun v0 => @bY.eq_2 (Go.Op.move v0) (by nofun)):=by intros; rfl
theorem aMJ:type_of% (fun v0 => @bY.eq_2 (Go.Op.assign v0) (by nofun)):=by intros; rfl
theorem aM9:type_of% (fun v0 v1 v2 => @bY.eq_2 (Go.Op.pick v0 v1 v2) (by nofun)):=by intros; rfl
theorem aLO:type_of% (fun v0 => @bY.eq_2 (Go.Op.alloc v0) (by nofun)):=by intros; rfl
theorem aMU:type_of% (fun v0 v1 => @bY.eq_2 (Go.Op.box v0 v1) (by nofun)):=by intros; rfl
theorem aNc:type_of% (fun v0 v1 => @bY.eq_2 (Go.Op.build v0 v1) (by nofun)):=by intros; rfl
theorem aMa:type_of% (fun v0 v1 v2 => @bY.eq_2 (Go.Op.buildSlice v0 v1 v2) (by nofun)):=by intros; rfl
theorem aN3:type_of% (fun v0 v1 v2 v3 => @bY.eq_2 (Go.Op.insert v0 v1 v2 v3) (by nofun)):=by intros; rfl
theorem aLL:type_of% (fun v0 v1 => @bY.eq_2 (Go.Op.load v0 v1) (by nofun)):=by intros; rfl
theorem aLI:type_of% (fun v0 v1 v2 => @bY.eq_2 (Go.Op.store v0 v1 v2) (by nofun)):=by intros; rfl
theorem aMy:type_of% (fun v0 => @bY.eq_2 (Go.Op.ready v0) (by nofun)):=by intros; rfl
theorem aNE:type_of% (fun v0 => @bY.eq_2 (Go.Op.waits v0) (by nofun)):=by intros; rfl
theorem aNr:type_of% (fun v0 => @bY.eq_2 (Go.Op.nilCheck v0) (by nofun)):=by intros; rfl
theorem aMT:type_of% (fun v0 v1 v2 v3 v4 => @bY.eq_2 (Go.Op.binOp v0 v1 v2 v3 v4) (by nofun)):=by intros; rfl
theorem aLC:type_of% (fun v0 v1 v2 => @bY.eq_2 (Go.Op.unOp v0 v1 v2) (by nofun)):=by intros; rfl
theorem aN0:type_of% (fun v0 v1 v2 => @bY.eq_2 (Go.Op.convert v0 v1 v2) (by nofun)):=by intros; rfl
theorem aMr:type_of% (fun v0 v1 => @bY.eq_2 (Go.Op.sliceToArrayPointer v0 v1) (by nofun)):=by intros; rfl
theorem aOn:type_of% (fun v0 v1 => @bY.eq_2 (Go.Op.makeInterface v0 v1) (by nofun)):=by intros; rfl
theorem aLN:type_of% (fun v0 v1 v2 => @bY.eq_2 (Go.Op.makeFunc v0 v1 v2) (by nofun)):=by intros; rfl
theorem aOM:type_of% (fun v0 v1 => @bY.eq_2 (Go.Op.makeMap v0 v1) (by nofun)):=by intros; rfl
theorem aOO:type_of% (fun v0 v1 => @bY.eq_2 (Go.Op.makeChan v0 v1) (by nofun)):=by intros; rfl
theorem aNN:type_of% (fun v0 v1 v2 => @bY.eq_2 (Go.Op.makeSlice v0 v1 v2) (by nofun)):=by intros; rfl
theorem aL3:type_of% (fun v0 v1 v2 v3 v4 => @bY.eq_2 (Go.Op.slice v0 v1 v2 v3 v4) (by nofun)):=by intros; rfl
theorem aNI:type_of% (fun v0 v1 v2 => @bY.eq_2 (Go.Op.fieldAddr v0 v1 v2) (by nofun)):=by intros; rfl
theorem aNe:type_of% (fun v0 v1 v2 => @bY.eq_2 (Go.Op.field v0 v1 v2) (by nofun)):=by intros; rfl
theorem aMl:type_of% (fun v0 v1 v2 => @bY.eq_2 (Go.Op.indexAddr v0 v1 v2) (by nofun)):=by intros; rfl
theorem aLJ:type_of% (fun v0 v1 v2 => @bY.eq_2 (Go.Op.index v0 v1 v2) (by nofun)):=by intros; rfl
theorem aNd:type_of% (fun v0 v1 v2 v3 => @bY.eq_2 (Go.Op.lookup v0 v1 v2 v3) (by nofun)):=by intros; rfl
theorem aNk:type_of% (fun v0 v1 v2 v3 => @bY.eq_2 (Go.Op.mapUpdate v0 v1 v2 v3) (by nofun)):=by intros; rfl
theorem aMb:type_of% (fun v0 v1 v2 => @bY.eq_2 (Go.Op.mapEntry v0 v1 v2) (by nofun)):=by intros; rfl
theorem aNO:type_of% (fun v0 v1 v2 v3 => @bY.eq_2 (Go.Op.entryStore v0 v1 v2 v3) (by nofun)):=by intros; rfl
theorem aNp:type_of% (fun v0 v1 => @bY.eq_2 (Go.Op.range v0 v1) (by nofun)):=by intros; rfl
theorem aMe:type_of% (fun v0 v1 => @bY.eq_2 (Go.Op.next v0 v1) (by nofun)):=by intros; rfl
theorem aN5:type_of% (fun v0 => @bY.eq_2 (Go.Op.entry v0) (by nofun)):=by intros; rfl
theorem aN9:type_of% (fun v0 v1 v2 v3 => @bY.eq_2 (Go.Op.typeAssert v0 v1 v2 v3) (by nofun)):=by intros; rfl
theorem aOb:type_of% (fun v0 v1 => @bY.eq_2 (Go.Op.extract v0 v1) (by nofun)):=by intros; rfl
theorem aMF:type_of% (fun v0 => @bY.eq_2 (Go.Op.go v0) (by nofun)):=by intros; rfl
theorem aOR:type_of% (fun v0 => @bY.eq_2 (Go.Op.defer v0) (by nofun)):=by intros; rfl
theorem aM3:type_of% (fun v0 => @bY.eq_2 (Go.Op.panic v0) (by nofun)):=by intros; rfl
theorem aOm:type_of% (fun v0 v1 => @bY.eq_2 (Go.Op.send v0 v1) (by nofun)):=by intros; rfl
theorem aMX:type_of% (fun v0 v1 v2 => @bY.eq_2 (Go.Op.recv v0 v1 v2) (by nofun)):=by intros; rfl
theorem aLX:type_of% (fun v0 v1 => @bY.eq_2 (Go.Op.select v0 v1) (by nofun)):=by intros; rfl
theorem aNZ:type_of% (fun v0 v1 => @aY.eq_3 v0 (A.d D.undef) v1 (by nofun)):=by intros; rfl
theorem aMz:type_of% (fun v0 v1 v2 v3 => @aY.eq_3 v0 (A.d (D.int v2 v3)) v1 (by nofun)):=by intros; rfl
theorem aOf:type_of% (fun v0 v1 v2 => @aY.eq_3 v0 (A.d (D.bool v2)) v1 (by nofun)):=by intros; rfl
theorem aOj:type_of% (fun v0 v1 v2 => @aY.eq_3 v0 (A.d (D.str v2)) v1 (by nofun)):=by intros; rfl
theorem aNH:type_of% (fun v0 v1 v2 v3 => @aY.eq_3 v0 (A.d (D.ivs v2 v3)) v1 (by nofun)):=by intros; rfl
theorem aOe:type_of% (fun v0 v1 v2 => @aY.eq_3 v0 (A.d (D.iptr v2)) v1 (by nofun)):=by intros; rfl
theorem aOJ:type_of% (fun v0 v1 => @aY.eq_3 v0 (A.d D.nilp) v1 (by nofun)):=by intros; rfl
theorem aMq:type_of% (fun v0 v1 v2 v3 => @aY.eq_3 v0 (A.d (D.fn v2 v3)) v1 (by nofun)):=by intros; rfl
theorem aL8:type_of% (fun v0 v1 => @aY.eq_3 v0 (A.d D.nilfn) v1 (by nofun)):=by intros; rfl
theorem aOI:type_of% (fun v0 v1 => @aY.eq_3 v0 (A.d D.nili) v1 (by nofun)):=by intros; rfl
theorem aN7:type_of% (fun v0 v1 => @aY.eq_3 v0 (A.d D.nilm) v1 (by nofun)):=by intros; rfl
theorem aNK:type_of% (fun v0 v1 v2 v3 => @aY.eq_3 v0 (A.d (D.ifc v2 v3)) v1 (by nofun)):=by intros; rfl
theorem aNB:type_of% (fun v0 v1 v2 v3 v4 v5 => @aY.eq_3 v0 (A.sl v2 v3 v4 v5) v1 (by nofun)):=by intros; rfl
theorem aMH:type_of% (fun v0 v1 v2 v3 v4 => @aY.eq_3 v0 (A.ptr v2 v3 v4) v1 (by nofun)):=by intros; rfl
theorem aNU:type_of% (fun v0 v1 v2 => @aY.eq_3 v0 (A.mp v2) v1 (by nofun)):=by intros; rfl
theorem aMo:type_of% (fun v0 v1 v2 v3 => @aY.eq_3 v0 (A.clo v2 v3) v1 (by nofun)):=by intros; rfl
theorem aLQ:type_of% (fun v0 v1 v2 => @aY.eq_3 v0 (A.agg v2) v1 (by nofun)):=by intros; rfl
theorem aNg:type_of% (fun v0 v1 v2 => @aY.eq_3 v0 (A.tup v2) v1 (by nofun)):=by intros; rfl
theorem aMi:type_of% (fun v0 v1 => @aY.eq_3 v0 A.junk v1 (by nofun)):=by intros; rfl
theorem aOq:type_of% (fun v0 v1 v2 v3 => @mapO.eq_3 v0 (O.arr v1 v2 v3) (by nofun) (by nofun)):=by intros; rfl
theorem aLE:type_of% (fun v0 v1 v2 v3 => @mapO.eq_3 v0 (O.ice v1 v2 v3) (by nofun) (by nofun)):=by intros; rfl
theorem aND:type_of% (fun v0 v1 => @mapO.eq_3 v0 (O.mp v1) (by nofun) (by nofun)):=by intros; rfl
theorem aMg:type_of% (fun v0 => @mapO.eq_3 v0 O.void (by nofun) (by nofun)):=by intros; rfl
theorem aNu:type_of% (fun v0 v1 => @frzA.eq_2 v0 (A.d v1) (by nofun)):=by intros; rfl
theorem aOF:type_of% (fun v0 v1 v2 v3 v4 => @frzA.eq_2 v0 (A.sl v1 v2 v3 v4) (by nofun)):=by intros; rfl
theorem aOo:type_of% (fun v0 v1 v2 v3 => @frzA.eq_2 v0 (A.ptr v1 v2 v3) (by nofun)):=by intros; rfl
theorem aNw:type_of% (fun v0 v1 => @frzA.eq_2 v0 (A.mp v1) (by nofun)):=by intros; rfl
theorem aOB:type_of% (fun v0 v1 v2 => @frzA.eq_2 v0 (A.clo v1 v2) (by nofun)):=by intros; rfl
theorem aNG:type_of% (fun v0 v1 => @frzA.eq_2 v0 (A.tup v1) (by nofun)):=by intros; rfl
theorem aLK:type_of% (fun v0 => @frzA.eq_2 v0 A.junk (by nofun)):=by intros; rfl
theorem aMB:type_of% (fun v0 v1 v2 v3 v4 v5 v6 => @fI.eq_4 v0 v1 v2 (Go.Callee.invoke v5 v6) v3 v4 (by nofun) (by nofun)):=by intros; rfl
theorem UN0:type_of% (AI @aDK (AI @aEO (AI @aCX (AI @ZS (AI @aBP (AI @aIn (AI @aJ8 (AI @aF6 (AI @aJV (AI @aDD (AI @aKj (AI @aE8 (AI @aLen.eq_def (AI @TM (AI @aB8 (AI @aCz (AI @aFZ (AI @ZY (AI @VU (AI @aFQ (AI @Y3 (AI @aBE (AI @WQ (AI @UH (AI @WY (AI @aFR (AI @aEv (AI @aEr (AI @aFe (AI @aKw (AI @aKA (AI @aKu (AI @List.replicate.eq_1.{0} (AI @List.replicate.eq_2.{0} (AI @List.range'.eq_1 (AI @List.range'.eq_2 (AI True.intro (AI @FE.eq_1 (AI @FE.eq_2 @QH.eq_1))))))))))))))))))))))))))))))))))))))) :=
 ⟨@aDK,@aEO,@aCX,@ZS,@aBP,@aIn,@aJ8,@aF6,@aJV,@aDD,@aKj,@aE8,@aLen.eq_def,@TM,@aB8,@aCz,@aFZ,@ZY,@VU,@aFQ,@Y3,@aBE,@WQ,@UH,@WY,@aFR,@aEv,@aEr,@aFe,@aKw,@aKA,@aKu,@List.replicate.eq_1.{0},@List.replicate.eq_2.{0},@List.range'.eq_1,@List.range'.eq_2,True.intro,@FE.eq_1,@FE.eq_2,@QH.eq_1⟩
theorem UN1:type_of% (AI @aPut.eq_1 (AI @aPut.eq_2 (AI @jU.eq_1 (AI @jU.eq_2 (AI @UNx1 (AI @UNx2 (AI @UNx3 (AI @UNx4 (AI @outA.eq_1 (AI @UNx5 (AI @UNx6 (AI @UNx7 (AI @UNx8 (AI @UNx9 (AI @aRA (AI @aQ2 (AI @outS.eq_1 (AI @aRH (AI @aQ3 (AI @aQ4 (AI @aRw (AI @aQR (AI @aRu (AI @aRq (AI @aQk (AI @aRK (AI @aRs (AI @aRd (AI @aQi (AI @outS.eq_3 (AI @outS.eq_4 (AI @outS.eq_5 (AI @aQY (AI @aRp (AI @aRC (AI @aQA (AI @BJ.eq_1 (AI @BJ.eq_2 (AI @idsA.eq_1 @idsA.eq_2))))))))))))))))))))))))))))))))))))))) :=
 ⟨@aPut.eq_1,@aPut.eq_2,@jU.eq_1,@jU.eq_2,@UNx1,@UNx2,@UNx3,@UNx4,@outA.eq_1,@UNx5,@UNx6,@UNx7,@UNx8,@UNx9,@aRA,@aQ2,@outS.eq_1,@aRH,@aQ3,@aQ4,@aRw,@aQR,@aRu,@aRq,@aQk,@aRK,@aRs,@aRd,@aQi,@outS.eq_3,@outS.eq_4,@outS.eq_5,@aQY,@aRp,@aRC,@aQA,@BJ.eq_1,@BJ.eq_2,@idsA.eq_1,@idsA.eq_2⟩
theorem UN2:type_of% (AI @idsA.eq_3 (AI @idsA.eq_4 (AI @idsA.eq_5 (AI @idsA.eq_6 (AI @idsA.eq_7 (AI @idsA.eq_8 (AI @idsL.eq_1 (AI @idsL.eq_2 (AI @mapA.eq_1 (AI @mapA.eq_2 (AI @mapA.eq_3 (AI @mapA.eq_4 (AI @mapA.eq_5 (AI @mapA.eq_6 (AI @mapA.eq_7 (AI @mapA.eq_8 (AI @aS.eq_1 (AI @aS.eq_2 (AI @bT.eq_1 (AI @bT.eq_2 (AI @bT.eq_3 (AI @bT.eq_4 (AI @bT.eq_5 (AI @bT.eq_6 (AI @bT.eq_7 (AI @bT.eq_8 (AI @kE.eq_1 (AI @L4.eq_1 (AI @bB.eq_1 (AI @eA.eq_1 (AI @gL.eq_1 (AI @gL.eq_2 (AI @dF.eq_1 (AI @dF.eq_2 (AI @dF.eq_3 (AI @dF.eq_4 (AI @dF.eq_5 (AI @dF.eq_6 (AI @aG.eq_1 @aG.eq_2))))))))))))))))))))))))))))))))))))))) :=
 ⟨@idsA.eq_3,@idsA.eq_4,@idsA.eq_5,@idsA.eq_6,@idsA.eq_7,@idsA.eq_8,@idsL.eq_1,@idsL.eq_2,@mapA.eq_1,@mapA.eq_2,@mapA.eq_3,@mapA.eq_4,@mapA.eq_5,@mapA.eq_6,@mapA.eq_7,@mapA.eq_8,@aS.eq_1,@aS.eq_2,@bT.eq_1,@bT.eq_2,@bT.eq_3,@bT.eq_4,@bT.eq_5,@bT.eq_6,@bT.eq_7,@bT.eq_8,@kE.eq_1,@L4.eq_1,@bB.eq_1,@eA.eq_1,@gL.eq_1,@gL.eq_2,@dF.eq_1,@dF.eq_2,@dF.eq_3,@dF.eq_4,@dF.eq_5,@dF.eq_6,@aG.eq_1,@aG.eq_2⟩
theorem UN3:type_of% (AI @rF.eq_1 (AI @rF.eq_2 (AI @rF.eq_3 (AI @aRr (AI @eN.eq_1 (AI @eN.eq_2 (AI @aP9 (AI @aQI (AI @aRc (AI @aRF (AI @aQu (AI @aQp (AI @aQb (AI @aQj (AI @aRh (AI @aQn (AI @aQ0 (AI @aQH (AI @aRO (AI @aRk (AI @aQW (AI @aRl (AI @aQt (AI @aQg (AI @tidy.eq_1 (AI @tidy.eq_2 (AI @aRi (AI @aQy (AI @aRt (AI @dE.eq_1 (AI @aRe (AI @aQv (AI @aQ8 (AI @aQU (AI @aRv (AI @aQm (AI @aQK (AI @dE.eq_3 (AI @kZ.eq_1 @aRJ))))))))))))))))))))))))))))))))))))))) :=
 ⟨@rF.eq_1,@rF.eq_2,@rF.eq_3,@aRr,@eN.eq_1,@eN.eq_2,@aP9,@aQI,@aRc,@aRF,@aQu,@aQp,@aQb,@aQj,@aRh,@aQn,@aQ0,@aQH,@aRO,@aRk,@aQW,@aRl,@aQt,@aQg,@tidy.eq_1,@tidy.eq_2,@aRi,@aQy,@aRt,@dE.eq_1,@aRe,@aQv,@aQ8,@aQU,@aRv,@aQm,@aQK,@dE.eq_3,@kZ.eq_1,@aRJ⟩
theorem UN4:type_of% (AI @aQL (AI @aQr (AI @aQE (AI @aRm (AI @aQx (AI @aRf (AI @qS.eq_1 (AI @sT.eq_1 (AI @IP.eq_1 (AI @yR.eq_1 (AI @aQs (AI @aQ9 (AI @aQq (AI @aRN (AI @aQD (AI @aQG (AI @aQV (AI @LP.eq_1 (AI @kT.eq_1 (AI @aRn (AI @aRa (AI @aQh (AI @aQa (AI @aQF (AI @aQN (AI @aQJ (AI @ER.eq_1 (AI @u5.eq_1 (AI @d8.eq_1 (AI @d8.eq_2 (AI @d8.eq_3 (AI @d8.eq_4 (AI @tU.eq_1 (AI @sP.eq_1 (AI @EY.eq_1 (AI @rE.eq_1 (AI @rE.eq_2 (AI @wD.eq_1 (AI @mH.eq_1 @eQ.eq_1))))))))))))))))))))))))))))))))))))))) :=
 ⟨@aQL,@aQr,@aQE,@aRm,@aQx,@aRf,@qS.eq_1,@sT.eq_1,@IP.eq_1,@yR.eq_1,@aQs,@aQ9,@aQq,@aRN,@aQD,@aQG,@aQV,@LP.eq_1,@kT.eq_1,@aRn,@aRa,@aQh,@aQa,@aQF,@aQN,@aQJ,@ER.eq_1,@u5.eq_1,@d8.eq_1,@d8.eq_2,@d8.eq_3,@d8.eq_4,@tU.eq_1,@sP.eq_1,@EY.eq_1,@rE.eq_1,@rE.eq_2,@wD.eq_1,@mH.eq_1,@eQ.eq_1⟩
theorem UN5:type_of% (AI @eQ.eq_2 (AI @eQ.eq_3 (AI @frzL.eq_1 (AI @jC.eq_1 (AI @jC.eq_2 (AI @frz.eq_1 (AI @frz.eq_2 (AI @frz.eq_3 (AI @frz.eq_4 (AI @aQf (AI @aRx (AI @aRG (AI @aQe (AI @aRD (AI @frz0.eq_1 (AI @frz0.eq_2 (AI @aQP (AI @aQ6 (AI @aQc (AI @aQM (AI @aRo (AI @aQz (AI @deep.eq_1 (AI @aR.eq_1 (AI @aQ7 (AI @aRg (AI @aQ1 (AI @aQ5 (AI @aRL (AI @aQo (AI @aRy (AI @bN.eq_1 (AI @cW.eq_1 (AI @cW.eq_2 (AI @cW.eq_3 (AI @cW.eq_4 (AI @aRI (AI @aP8 (AI @aRb @aRB))))))))))))))))))))))))))))))))))))))) :=
 ⟨@eQ.eq_2,@eQ.eq_3,@frzL.eq_1,@jC.eq_1,@jC.eq_2,@frz.eq_1,@frz.eq_2,@frz.eq_3,@frz.eq_4,@aQf,@aRx,@aRG,@aQe,@aRD,@frz0.eq_1,@frz0.eq_2,@aQP,@aQ6,@aQc,@aQM,@aRo,@aQz,@deep.eq_1,@aR.eq_1,@aQ7,@aRg,@aQ1,@aQ5,@aRL,@aQo,@aRy,@bN.eq_1,@cW.eq_1,@cW.eq_2,@cW.eq_3,@cW.eq_4,@aRI,@aP8,@aRb,@aRB⟩
theorem UN6:type_of% (AI @aNL (AI @aLY (AI @aL6 (AI @aMY (AI @aOs (AI @aOp (AI @aMs (AI @aNa (AI @aMv (AI @aMp (AI @aM5 (AI @aOQ (AI @oJ.eq_1 (AI @aM6 (AI @aOt (AI @aNy (AI @aML (AI @aM1 (AI @aLV (AI @aLG (AI @fU.eq_1 (AI @fU.eq_2 (AI @fU.eq_3 (AI @aOK (AI @aL4 (AI @aN6 (AI @aNA (AI @pJ.eq_1 (AI @pJ.eq_2 (AI @EF.eq_1 (AI @EF.eq_2 (AI @rI.eq_1 (AI @rI.eq_2 (AI @tupA.eq_1 (AI @aN1 (AI @aMx (AI @kK.eq_1 (AI @kK.eq_2 (AI @kK.eq_3 @kK.eq_4))))))))))))))))))))))))))))))))))))))) :=
 ⟨@aNL,@aLY,@aL6,@aMY,@aOs,@aOp,@aMs,@aNa,@aMv,@aMp,@aM5,@aOQ,@oJ.eq_1,@aM6,@aOt,@aNy,@aML,@aM1,@aLV,@aLG,@fU.eq_1,@fU.eq_2,@fU.eq_3,@aOK,@aL4,@aN6,@aNA,@pJ.eq_1,@pJ.eq_2,@EF.eq_1,@EF.eq_2,@rI.eq_1,@rI.eq_2,@tupA.eq_1,@aN1,@aMx,@kK.eq_1,@kK.eq_2,@kK.eq_3,@kK.eq_4⟩
theorem UN7:type_of% (AI @v8.eq_1 (AI @v8.eq_2 (AI @opds.eq_1 (AI @opds.eq_2 (AI @opds.eq_3 (AI @opds.eq_4 (AI @opds.eq_5 (AI @opds.eq_6 (AI @opds.eq_7 (AI @opds.eq_8 (AI @opds.eq_9 (AI @opds.eq_10 (AI @opds.eq_11 (AI @opds.eq_12 (AI @opds.eq_13 (AI @opds.eq_14 (AI @opds.eq_15 (AI @opds.eq_16 (AI @opds.eq_17 (AI @opds.eq_18 (AI @opds.eq_19 (AI @opds.eq_20 (AI @opds.eq_21 (AI @opds.eq_22 (AI @opds.eq_23 (AI @opds.eq_24 (AI @evOp.eq_1 (AI @gT.eq_1 (AI @one.eq_1 (AI @two.eq_1 (AI @EP.eq_1 (AI @aMK (AI @aNz (AI @aM0 (AI @aMG (AI @EI.eq_1 (AI @wH.eq_1 (AI @d5.eq_1 (AI @aOh @aNj))))))))))))))))))))))))))))))))))))))) :=
 ⟨@v8.eq_1,@v8.eq_2,@opds.eq_1,@opds.eq_2,@opds.eq_3,@opds.eq_4,@opds.eq_5,@opds.eq_6,@opds.eq_7,@opds.eq_8,@opds.eq_9,@opds.eq_10,@opds.eq_11,@opds.eq_12,@opds.eq_13,@opds.eq_14,@opds.eq_15,@opds.eq_16,@opds.eq_17,@opds.eq_18,@opds.eq_19,@opds.eq_20,@opds.eq_21,@opds.eq_22,@opds.eq_23,@opds.eq_24,@evOp.eq_1,@gT.eq_1,@one.eq_1,@two.eq_1,@EP.eq_1,@aMK,@aNz,@aM0,@aMG,@EI.eq_1,@wH.eq_1,@d5.eq_1,@aOh,@aNj⟩
theorem UN8:type_of% (AI @aOL (AI @aNb (AI @aNJ (AI @aMS (AI @aMW (AI @aME (AI @aL0 (AI @aOl (AI @aMt (AI @aNm (AI @aOA (AI @aNV (AI @aMu (AI @aLW (AI @aMM (AI @aOD (AI @aOP (AI @aM2 (AI @aOd (AI @aNx (AI @aNew.eq_1 (AI @mK.eq_1 (AI @mK.eq_2 (AI @mK.eq_3 (AI @mK.eq_4 (AI @IT.eq_1 (AI @z7.eq_1 (AI @PL.eq_1 (AI @cQ.eq_1 (AI @cQ.eq_2 (AI @cQ.eq_3 (AI @cQ.eq_4 (AI @cQ.eq_5 (AI @cQ.eq_6 (AI @cQ.eq_7 (AI @cQ.eq_8 (AI @cQ.eq_9 (AI @cQ.eq_10 (AI @cQ.eq_11 @bY.eq_1))))))))))))))))))))))))))))))))))))))) :=
 ⟨@aOL,@aNb,@aNJ,@aMS,@aMW,@aME,@aL0,@aOl,@aMt,@aNm,@aOA,@aNV,@aMu,@aLW,@aMM,@aOD,@aOP,@aM2,@aOd,@aNx,@aNew.eq_1,@mK.eq_1,@mK.eq_2,@mK.eq_3,@mK.eq_4,@IT.eq_1,@z7.eq_1,@PL.eq_1,@cQ.eq_1,@cQ.eq_2,@cQ.eq_3,@cQ.eq_4,@cQ.eq_5,@cQ.eq_6,@cQ.eq_7,@cQ.eq_8,@cQ.eq_9,@cQ.eq_10,@cQ.eq_11,@bY.eq_1⟩
theorem UN9:type_of% (AI @aOv (AI @aMJ (AI @aM9 (AI @aLO (AI @aMU (AI @aNc (AI @aMa (AI @aN3 (AI @aLL (AI @aLI (AI @aMy (AI @aNE (AI @aNr (AI @aMT (AI @aLC (AI @aN0 (AI @aMr (AI @aOn (AI @aLN (AI @aOM (AI @aOO (AI @aNN (AI @aL3 (AI @aNI (AI @aNe (AI @aMl (AI @aLJ (AI @aNd (AI @aNk (AI @aMb (AI @aNO (AI @aNp (AI @aMe (AI @aN5 (AI @aN9 (AI @aOb (AI @aMF (AI @aOR (AI @aM3 @aOm))))))))))))))))))))))))))))))))))))))) :=
 ⟨@aOv,@aMJ,@aM9,@aLO,@aMU,@aNc,@aMa,@aN3,@aLL,@aLI,@aMy,@aNE,@aNr,@aMT,@aLC,@aN0,@aMr,@aOn,@aLN,@aOM,@aOO,@aNN,@aL3,@aNI,@aNe,@aMl,@aLJ,@aNd,@aNk,@aMb,@aNO,@aNp,@aMe,@aN5,@aN9,@aOb,@aMF,@aOR,@aM3,@aOm⟩
theorem UN10:type_of% (AI @aMX (AI @aLX (AI @back.eq_1 (AI @bP.eq_1 (AI @bP.eq_2 (AI @bP.eq_3 (AI @aE.eq_1 (AI @closed.eq_1 (AI @m3.eq_1 (AI @aY.eq_1 (AI @aY.eq_2 (AI @aNZ (AI @aMz (AI @aOf (AI @aOj (AI @aNH (AI @aOe (AI @aOJ (AI @aMq (AI @aL8 (AI @aOI (AI @aN7 (AI @aNK (AI @aNB (AI @aMH (AI @aNU (AI @aMo (AI @aLQ (AI @aNg (AI @aMi (AI @aI.eq_1 (AI @aI.eq_2 (AI @pack.eq_1 (AI @mapO.eq_1 (AI @mapO.eq_2 (AI @aOq (AI @aLE (AI @aND (AI @aMg @b5.eq_1))))))))))))))))))))))))))))))))))))))) :=
 ⟨@aMX,@aLX,@back.eq_1,@bP.eq_1,@bP.eq_2,@bP.eq_3,@aE.eq_1,@closed.eq_1,@m3.eq_1,@aY.eq_1,@aY.eq_2,@aNZ,@aMz,@aOf,@aOj,@aNH,@aOe,@aOJ,@aMq,@aL8,@aOI,@aN7,@aNK,@aNB,@aMH,@aNU,@aMo,@aLQ,@aNg,@aMi,@aI.eq_1,@aI.eq_2,@pack.eq_1,@mapO.eq_1,@mapO.eq_2,@aOq,@aLE,@aND,@aMg,@b5.eq_1⟩
theorem UN11:type_of% (AI @frzA.eq_1 (AI @aNu (AI @aOF (AI @aOo (AI @aNw (AI @aOB (AI @aNG (AI @aLK (AI @jB.eq_1 (AI @jB.eq_2 (AI @memD.eq_1 (AI @cZ.eq_1 (AI @M4.eq_1 (AI @fI.eq_1 (AI @fI.eq_2 (AI @fI.eq_3 @aMB)))))))))))))))) :=
 ⟨@frzA.eq_1,@aNu,@aOF,@aOo,@aNw,@aOB,@aNG,@aLK,@jB.eq_1,@jB.eq_2,@memD.eq_1,@cZ.eq_1,@M4.eq_1,@fI.eq_1,@fI.eq_2,@fI.eq_3,@aMB⟩
theorem UN:type_of% (AI @UN0 (AI @UN1 (AI @UN2 (AI @UN3 (AI @UN4 (AI @UN5 (AI @UN6 (AI @UN7 (AI @UN8 (AI @UN9 (AI @UN10 @UN11))))))))))) :=
 ⟨@UN0,@UN1,@UN2,@UN3,@UN4,@UN5,@UN6,@UN7,@UN8,@UN9,@UN10,@UN11⟩
theorem aQQ:type_of% (fun v0 v1 v2 v3 v4 => @slim.eq_9 v0 (Go.Code.rangeFunc v1 v2 v3 v4) (by nofun) (by nofun) (by nofun) (by nofun) (by nofun) (by nofun) (by nofun) (by nofun)):=(fun v0 v1 v2 v3 v4 => @slim.eq_9 v0 (Go.Code.rangeFunc v1 v2 v3 v4) (by nofun) (by nofun) (by nofun) (by nofun) (by nofun) (by nofun) (by nofun) (by nofun))
theorem aQT:type_of% (fun v0 v1 => @slim.eq_9 v0 (Go.Code.scope v1) (by nofun) (by nofun) (by nofun) (by nofun) (by nofun) (by nofun) (by nofun) (by nofun)):=(fun v0 v1 => @slim.eq_9 v0 (Go.Code.scope v1) (by nofun) (by nofun) (by nofun) (by nofun) (by nofun) (by nofun) (by nofun) (by nofun))
theorem aQB:type_of% (fun v0 v1 => @slim.eq_9 v0 (Go.Code.label v1) (by nofun) (by nofun) (by nofun) (by nofun) (by nofun) (by nofun) (by nofun) (by nofun)):=(fun v0 v1 => @slim.eq_9 v0 (Go.Code.label v1) (by nofun) (by nofun) (by nofun) (by nofun) (by nofun) (by nofun) (by nofun) (by nofun))
theorem aQZ:type_of% (fun v0 v1 => @slim.eq_9 v0 (Go.Code.goto v1) (by nofun) (by nofun) (by nofun) (by nofun) (by nofun) (by nofun) (by nofun) (by nofun)):=(fun v0 v1 => @slim.eq_9 v0 (Go.Code.goto v1) (by nofun) (by nofun) (by nofun) (by nofun) (by nofun) (by nofun) (by nofun) (by nofun))
theorem aQw:type_of% (fun v0 v1 => @slim.eq_9 v0 (Go.Code.refuse v1) (by nofun) (by nofun) (by nofun) (by nofun) (by nofun) (by nofun) (by nofun) (by nofun)):=(fun v0 v1 => @slim.eq_9 v0 (Go.Code.refuse v1) (by nofun) (by nofun) (by nofun) (by nofun) (by nofun) (by nofun) (by nofun) (by nofun))
theorem aRz:type_of% (@bX.eq_5 Go.Code.skip (by nofun) (by nofun) (by nofun) (by nofun)):=(@bX.eq_5 Go.Code.skip (by nofun) (by nofun) (by nofun) (by nofun))
theorem aQl:type_of% (fun v0 v1 v2 => @bX.eq_5 (Go.Code.region v0 v1 v2) (by nofun) (by nofun) (by nofun) (by nofun)):=(fun v0 v1 v2 => @bX.eq_5 (Go.Code.region v0 v1 v2) (by nofun) (by nofun) (by nofun) (by nofun))
theorem aQX:type_of% (fun v0 v1 v2 v3 => @bX.eq_5 (Go.Code.rangeFunc v0 v1 v2 v3) (by nofun) (by nofun) (by nofun) (by nofun)):=(fun v0 v1 v2 v3 => @bX.eq_5 (Go.Code.rangeFunc v0 v1 v2 v3) (by nofun) (by nofun) (by nofun) (by nofun))
theorem aRM:type_of% (fun v0 => @bX.eq_5 (Go.Code.exit v0) (by nofun) (by nofun) (by nofun) (by nofun)):=(fun v0 => @bX.eq_5 (Go.Code.exit v0) (by nofun) (by nofun) (by nofun) (by nofun))
theorem aMA:type_of% (fun v0 => @bX.eq_5 (Go.Code.scope v0) (by nofun) (by nofun) (by nofun) (by nofun)):=(fun v0 => @bX.eq_5 (Go.Code.scope v0) (by nofun) (by nofun) (by nofun) (by nofun))
theorem aOa:type_of% (fun v0 => @bX.eq_5 (Go.Code.label v0) (by nofun) (by nofun) (by nofun) (by nofun)):=(fun v0 => @bX.eq_5 (Go.Code.label v0) (by nofun) (by nofun) (by nofun) (by nofun))
theorem aNT:type_of% (fun v0 => @bX.eq_5 (Go.Code.goto v0) (by nofun) (by nofun) (by nofun) (by nofun)):=(fun v0 => @bX.eq_5 (Go.Code.goto v0) (by nofun) (by nofun) (by nofun) (by nofun))
theorem aMn:type_of% (@bX.eq_5 Go.Code.ret (by nofun) (by nofun) (by nofun) (by nofun)):=(@bX.eq_5 Go.Code.ret (by nofun) (by nofun) (by nofun) (by nofun))
theorem aNW:type_of% (fun v0 => @bX.eq_5 (Go.Code.refuse v0) (by nofun) (by nofun) (by nofun) (by nofun)):=(fun v0 => @bX.eq_5 (Go.Code.refuse v0) (by nofun) (by nofun) (by nofun) (by nofun))
theorem SLM0:type_of% (AI @Option.getD_some.{0} (AI @List.length_nil.{0} (AI @Nat.add_zero (AI @Nat.zero_add (AI @List.map_cons.{0,0} (AI @List.map_nil.{0,0} (AI @List.getElem?_cons_zero.{0} (AI @List.getElem?_cons_succ.{0} (AI @Option.bind_some.{0,0} (AI @Bool.false_eq_true (AI @if_false.{0} (AI @if_true.{0} (AI @List.length_cons.{0} (AI @List.replicate.eq_1.{0} (AI @List.replicate.eq_2.{0} (AI @List.cons_append.{0} (AI @List.nil_append.{0} (AI @List.append_nil.{0} (AI @List.getD_cons_zero.{0} (AI @List.getD_cons_succ.{0} (AI @bR.eq_1 (AI @b8.eq_1 (AI @lpOf.eq_1 (AI @a8.eq_1 (AI @slim.eq_1 (AI @slim.eq_2 (AI @slim.eq_3 (AI @slim.eq_4 (AI @slim.eq_5 (AI @slim.eq_6 (AI @slim.eq_7 (AI @slim.eq_8 (AI @aQQ (AI @aQT (AI @aQB (AI @aQZ (AI @aQw (AI @bX.eq_1 (AI @bX.eq_2 @bX.eq_3))))))))))))))))))))))))))))))))))))))) :=
 ⟨@Option.getD_some.{0},@List.length_nil.{0},@Nat.add_zero,@Nat.zero_add,@List.map_cons.{0,0},@List.map_nil.{0,0},@List.getElem?_cons_zero.{0},@List.getElem?_cons_succ.{0},@Option.bind_some.{0,0},@Bool.false_eq_true,@if_false.{0},@if_true.{0},@List.length_cons.{0},@List.replicate.eq_1.{0},@List.replicate.eq_2.{0},@List.cons_append.{0},@List.nil_append.{0},@List.append_nil.{0},@List.getD_cons_zero.{0},@List.getD_cons_succ.{0},@bR.eq_1,@b8.eq_1,@lpOf.eq_1,@a8.eq_1,@slim.eq_1,@slim.eq_2,@slim.eq_3,@slim.eq_4,@slim.eq_5,@slim.eq_6,@slim.eq_7,@slim.eq_8,@aQQ,@aQT,@aQB,@aQZ,@aQw,@bX.eq_1,@bX.eq_2,@bX.eq_3⟩
theorem SLM1:type_of% (AI @bX.eq_4 (AI @aRz (AI @aQl (AI @aQX (AI @aRM (AI @aMA (AI @aOa (AI @aNT (AI @aMn (AI @aNW (AI @IJ.eq_1 (AI @OB.eq_1 @OB.eq_2)))))))))))) :=
 ⟨@bX.eq_4,@aRz,@aQl,@aQX,@aRM,@aMA,@aOa,@aNT,@aMn,@aNW,@IJ.eq_1,@OB.eq_1,@OB.eq_2⟩
theorem SLM:type_of% (AI @SLM0 @SLM1) :=
 ⟨@SLM0,@SLM1⟩
theorem LN:type_of% (AI @List.length_append.{0} (AI @List.length_cons.{0} (AI @List.length_nil.{0} (AI @List.length_set.{0} (AI @List.length_replicate.{0} (AI @List.length_map.{0,0} (AI @List.length_take.{0} @List.length_drop.{0}))))))) :=
 ⟨@List.length_append.{0},@List.length_cons.{0},@List.length_nil.{0},@List.length_set.{0},@List.length_replicate.{0},@List.length_map.{0,0},@List.length_take.{0},@List.length_drop.{0}⟩
theorem GT:type_of% (AI @List.getElem?_cons_zero.{0} @List.getElem?_cons_succ.{0}) :=
 ⟨@List.getElem?_cons_zero.{0},@List.getElem?_cons_succ.{0}⟩
end Ev
end Go.Proofs.YtppdfjdfjfoddaaDoor
