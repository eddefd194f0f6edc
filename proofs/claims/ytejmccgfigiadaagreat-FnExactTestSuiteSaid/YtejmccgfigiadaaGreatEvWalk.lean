/-
  How each operation goes, in the form in which the evaluator is walked.
-/
import Derived.Test.YtejmccgfigiadaaGreatEvPrim
set_option linter.unusedSimpArgs false
set_option linter.unusedVariables false
namespace Go.Proofs.YtejmccgfigiadaaGreat
namespace Ev
section
variable {R:Type} {E:Env} {call:b5} {thaw:List Nat} {dst:Option Tmp} {s:List A} {h:H} {k:A → H → Option R}
structure Now (p:Prop):Prop where
 it:p
structure Shut (p:Prop):Prop where
 it:p
inductive Box (α:Type) where
 | mk (a:α)
 | no
def box {α:Type} (a:α):Box α:=.mk a
theorem aS9 {α:Type} {a:α}:box a = .mk a:=rfl
theorem aTo {t:Nat} {q:A → Option R}:kv s (.tmp t) q = match box (s.getD t (.d .undef)) with | .no => none | .mk a => q a:=rfl
theorem aUE {K:IntKind} {n:Int} {q:A → Option R}:kv s (.const (.int K n)) q = q (.d (.int K n)):=rfl
theorem aO1 {b:Bool} {q:A → Option R}:kv s (.const (.bool b)) q = q (.d (.bool b)):=rfl
theorem aS7 {b:ByteArray} {q:A → Option R}:kv s (.const (.string b)) q = match box b.data.toList with | .no => none | .mk l => q (.d (.str l)):=rfl
theorem aOR {q:A → Option R}:kv s (.const (.pointer none)) q = q (.d .nilp):=rfl
theorem aPp {q:A → Option R}:kv s (.const (.slice none 0 0)) q = q (.d .nils):=rfl
theorem aPd {f:FuncId} {q:A → Option R}:kv s (.func f) q = q (.clo f []):=rfl
theorem aTj {cs:Array Value} {q:A → Option R}:kv s (.const (.agg cs)) q = match BO cs.toList with
  | some as => q (.agg as)
  | none => none:=by
 unfold kv; simp only [dN,PB]
 cases BO cs.toList <;> rfl
theorem aPe {q:List A → Option R}:kvs s [] q = q []:=rfl
theorem aLW {x:Operand} {xs:List Operand} {q:List A → Option R}:kvs s (x :: xs) q = kv s x fun a => kvs s xs fun as => q (a :: as):=by
 unfold kvs kv
 simp only [cC]
 cases dN s x with
 | none => rfl
 | some a => cases cC s xs <;> rfl
theorem aDR {yes no:List A → Option R}:z7 none s yes no = yes s:=rfl
theorem aEh {t:Nat} {w:Bool} {yes no:List A → Option R}:z7 (some (some t,w)) s yes no = match s.getD t .junk with
  | .d (.bool b) => if b = w then (match box (s.set t (.d (.bool w))) with | .no => none | .mk s => yes s) else (match box (s.set t (.d (.bool (!w)))) with | .no => none | .mk s => no s)
  | .d .undef => no s
  | _ => none:=by
 simp only [z7,List.getD_eq_getElem?_getD]
 cases s[t]? with
 | none => rfl
 | some a =>
  cases a with
  | d x => cases x <;> rfl
  | _ => rfl
theorem aLT {x:Operand}:kOp E call thaw dst (.move x) s h k = kv s x fun a => k a h:=by
 unfold kOp kvs kv
 simp only [opds,cC]
 cases dN s x <;> rfl
def kAsg (thaw:List Nat) (dst:Option Tmp) (h:H) (k:A → H → Option R) (a:A):Option R :=
 match a with
 | .d .nils => match ES thaw dst with
  | 0 => k (.d .nils) h
  | e + 1 => if e < 1000 then k (.sl h.length 0 0 0) (h ++ [.arr [] e 0]) else k (.sl h.length 0 0 0) (h ++ [.vec [] (e - 1000) 0])
 | a => k a h
theorem TI {t:Nat}:kOp E call thaw dst (.assign (.tmp t)) s h k = match box (s.getD t (.d .undef)) with | .no => none | .mk a => k a h:=by
 unfold kOp kvs
 simp only [opds,cC,dN,bZ,Bool.false_eq_true,if_false]
 rfl
theorem N9 {v:Value}:kOp E call thaw dst (.assign (.const v)) s h k = kv s (.const v) (kAsg thaw dst h k):=by
 unfold kOp kvs kv kAsg
 simp only [opds,cC]
 cases dN s (.const v) with
 | none => rfl
 | some a =>
  simp only [bZ,Bool.false_eq_true,if_false,evOp,one,dR,lV]
  cases a with
  | d x =>
   cases x with
   | nils => cases ht:ES thaw dst with
    | zero => simp [ht]
    | succ e => by_cases he:e < 1000 <;> simp [ht,he]
   | _ => rfl
  | _ => rfl
theorem RM {f:FuncId}:kOp E call thaw dst (.assign (.func f)) s h k = k (.clo f []) h:=by
 rfl
def kRet (r:Option (A × H)) (k:A → H → Option R):Option R :=
 match r with
 | some (a,h') => k a h'
 | none => none
theorem aPu {op:BinOp} {t:TypeId} {x y:Operand} {t2:TypeId}:kOp E call thaw dst (.binOp op t x y t2) s h k = kv s x fun a => kv s y fun b => kRet (cY E op t h a b) k:=by
 unfold kOp kvs kv kRet
 simp only [opds,cC]
 cases dN s x with
 | none => rfl
 | some a => cases dN s y <;> rfl
theorem aSE {op:UnOp} {t:TypeId} {x:Operand}:kOp E call thaw dst (.unOp op t x) s h k = kv s x fun a => kRet ((aUn op a).map fun r => (r,h)) k:=by
 unfold kOp kvs kv kRet
 simp only [opds,cC]
 cases dN s x <;> rfl
theorem aLL {c x y:Operand}:kOp E call thaw dst (.pick c x y) s h k = kv s c fun b => kv s x fun a => kv s y fun a' => kRet (VC h [b,a,a']) k:=by
 unfold kOp kvs kv kRet
 simp only [opds,cC]
 cases dN s c with
 | none => rfl
 | some b => cases dN s x with
  | none => rfl
  | some a => cases dN s y <;> rfl
theorem aAo {x:Operand}:kOp E call thaw dst (.nilCheck x) s h k = kv s x fun a => kRet (kI h a) k:=by
 unfold kOp kvs kv kRet
 simp only [opds,cC]
 cases dN s x <;> rfl
theorem aMo {t u:TypeId} {x:Operand}:kOp E call thaw dst (.convert t u x) s h k = kv s x fun a => kRet (eK E.P h t u a) k:=by
 unfold kOp kvs kv kRet
 simp only [opds,cC]
 cases dN s x <;> rfl
theorem aMK {t:TypeId} {x:Operand}:kOp E call thaw dst (.load t x) s h k = kv s x fun a => kRet ((IN E.P h t a).map fun v => (v,h)) k:=by
 unfold kOp kvs kv kRet
 simp only [opds,cC]
 cases dN s x <;> rfl
theorem aKB {t:TypeId} {x y:Operand}:kOp E call thaw dst (.store t x y) s h k = kv s x fun a => kv s y fun b => kRet ((nW E.P h t a b).map fun h' => (.d .undef,h')) k:=by
 unfold kOp kvs kv kRet
 simp only [opds,cC]
 cases dN s x with
 | none => rfl
 | some a => cases dN s y <;> rfl
theorem aJW {t:TypeId}:kOp E call thaw dst (.alloc t) s h k = match box (bU E.P t) with
  | .no => none
  | .mk none => none
  | .mk (some z) => kRet (aNew h z) k:=by
 unfold kOp kvs kRet
 simp only [opds,cC,bZ,Bool.false_eq_true,if_false,evOp,lV,box]
 cases bU E.P t <;> rfl
theorem aOZ {t:TypeId} {x:Operand}:kOp E call thaw dst (.box t x) s h k = kv s x fun a => kRet (aNew h a) k:=by
 unfold kOp kvs kv kRet
 simp only [opds,cC]
 cases dN s x <;> rfl
theorem aK6 {t:TypeId} {ps:List (Nat × Operand)}:kOp E call thaw dst (.build t ps.toArray) s h k = match box (ps.map (·.2)) with
  | .no => none
  | .mk xs => kvs s xs fun vs => kRet ((jF E.P t ((ps.map (·.1)).zip vs)).map fun a => (a,h)) k:=by
 unfold kOp kRet
 rfl
theorem TH {t:TypeId} {n:Nat} {ps:List (Nat × Operand)}:kOp E call thaw dst (.buildSlice t n ps.toArray) s h k = match box (ps.map (·.2)) with
  | .no => none
  | .mk xs => kvs s xs fun vs => kRet (if logs thaw dst = true then qC (oV E.P h t n ((ps.map (·.1)).zip vs)) else if keeps thaw dst = true then CQ E.P h t n ((ps.map (·.1)).zip vs) else oV E.P h t n ((ps.map (·.1)).zip vs)) k:=by
 unfold kOp kRet
 rfl
theorem aCf {fn:Fn} {cap:List Operand}:kOp E call thaw dst (.makeFunc fn #[] cap.toArray) s h k = kvs s cap fun vs => kRet (VG h fn true vs) k:=by
 unfold kOp kRet
 rfl
theorem YL {t:TypeId} {x y:Operand}:kOp E call thaw dst (.makeSlice t x y) s h k = kv s x fun a => kv s y fun b => kRet (l9 a fun l => l9 b fun c => if keeps thaw dst = true then BR E.P h t l c else jU E.P h t l c) k:=by
 unfold kOp kvs kv kRet
 simp only [opds,cC]
 cases dN s x with
 | none => rfl
 | some a => cases dN s y <;> rfl
theorem aEf {t:TypeId} {x:Operand}:kOp E call thaw dst (.slice t x none none none) s h k = kvs s [x] fun vs => kRet (l8 E.P h t false false vs) k:=rfl
theorem aDe {t:TypeId} {x lo:Operand}:kOp E call thaw dst (.slice t x (some lo) none none) s h k = kvs s [x,lo] fun vs => kRet (l8 E.P h t true false vs) k:=rfl
theorem aDf {t:TypeId} {x hi:Operand}:kOp E call thaw dst (.slice t x none (some hi) none) s h k = kvs s [x,hi] fun vs => kRet (l8 E.P h t false true vs) k:=rfl
theorem aEa {t:TypeId} {x lo hi:Operand}:kOp E call thaw dst (.slice t x (some lo) (some hi) none) s h k = kvs s [x,lo,hi] fun vs => kRet (l8 E.P h t true true vs) k:=rfl
theorem YJ {t:TypeId} {x:Operand} {f:Nat}:kOp E call thaw dst (.fieldAddr t x f) s h k = kv s x fun a => kRet ((bK E.P t f).bind fun r => (yU r.1 a).map fun r => (r,h)) k:=by
 unfold kOp kvs kv kRet
 simp only [opds,cC]
 cases dN s x <;> rfl
theorem aKD {t:TypeId} {x:Operand} {f:Nat}:kOp E call thaw dst (.field t x f) s h k = kv s x fun a => kRet (NF E.P h t f a) k:=by
 unfold kOp kvs kv kRet
 simp only [opds,cC]
 cases dN s x <;> rfl
theorem ZL {t:TypeId} {x y:Operand}:kOp E call thaw dst (.indexAddr t x y) s h k = kv s x fun a => kv s y fun b => kRet (l9 b fun i => (uM E.P h t a i).map fun r => (r,h)) k:=by
 unfold kOp kvs kv kRet
 simp only [opds,cC]
 cases dN s x with
 | none => rfl
 | some a => cases dN s y <;> rfl
theorem aJK {t:TypeId} {x y:Operand}:kOp E call thaw dst (.index t x y) s h k = kv s x fun a => kv s y fun b => kRet (l9 b fun i => (TJ E.P t a i).map fun r => (r,h)) k:=by
 unfold kOp kvs kv kRet
 simp only [opds,cC]
 cases dN s x with
 | none => rfl
 | some a => cases dN s y <;> rfl
theorem aD9 {t:TypeId}:kOp E call thaw dst (.makeMap t none) s h k = k (.mp h.length) (h ++ [.mp []]):=rfl
theorem aGL {t:TypeId} {x y:Operand} {ok:Bool}:kOp E call thaw dst (.lookup t x y ok) s h k = kv s x fun a => kv s y fun b => kRet (VL E.P h t ok a b) k:=by
 unfold kOp kvs kv kRet
 simp only [opds,cC]
 cases dN s x with
 | none => rfl
 | some a => cases dN s y <;> rfl
theorem ZR {t:TypeId} {x y z:Operand}:kOp E call thaw dst (.mapUpdate t x y z) s h k = kv s x fun a => kv s y fun b => kv s z fun c => kRet (tT E.P h t a b c) k:=by
 unfold kOp kvs kv kRet
 simp only [opds,cC]
 cases dN s x with
 | none => rfl
 | some a => cases dN s y with
  | none => rfl
  | some b => cases dN s z <;> rfl
theorem aD0 {x:Operand} {i:Nat}:kOp E call thaw dst (.extract x i) s h k = kv s x fun a => kRet (C9 h i a) k:=by
 unfold kOp kvs kv kRet
 simp only [opds,cC]
 cases dN s x <;> rfl
theorem aDE {b:Builtin} {args:List Operand} {tys:List TypeId}:kOp E call thaw dst (.call ⟨.builtin b,args.toArray,tys.toArray⟩) s h k = kvs s args fun vs => kRet (dF E.P h b tys vs) k:=by
 unfold kOp kRet
 rfl
theorem eH {op:Op} {q:A → H → Foot → Option R} (hp:Now (cV op = true ∧ bZ op = false)):kOpD E call thaw dst op s h q = kOp E call thaw dst op s h fun a _ => q a h {}:=by
 obtain ⟨hp,hc⟩:=hp.it
 unfold kOpD kOp kvs
 rw [hp,hc]
 cases cC s (opds op) with
 | none => rfl
 | some vs =>
  simp only [if_true,Bool.false_eq_true,if_false]
def memD (E:Env) (call:b5) (thaw:List Nat) (dst:Option Tmp) (op:Op) (h:H) (vs:List A):Option (A × H × Foot):=match box (aD aI h (idsL vs) []) with
 | .no => none
 | .mk ord => match box (evOp E call thaw (pack h ord) (lV dst op) (aP (aH ord) vs)) with
  | .mk (some (a,h1)) => if ord.length ≤ h1.length ∧ closed h ord (idsL vs) = true then
    (if (gH E op vs && h1.length - ord.length == 0) = true then some (mapA (back ord h.length h1.length) a,h,{ ids:=ord,ro:=true })
    else some (mapA (back ord h.length h1.length) a,bJ (back ord h.length h1.length) h ord h1,{ ids:=ord ++ List.range' h.length (h1.length - ord.length),ro:=false,wr:=wrOf E op vs ord ++ List.range' h.length (h1.length - ord.length) }))
   else none
  | _ => none
theorem gL {op:Op} {q:A → H → Foot → Option R} (hp:Now (cV op = false ∧ pD op = false)):kOpD E call thaw dst op s h q = match box (opds op) with | .no => none | .mk xs => kvs s xs fun vs => match box (memD E call thaw dst op h vs) with
  | .mk (some (a,h',c)) => q a h' c
  | _ => none:=by
 simp only [box]
 unfold kOpD kvs
 rw [hp.it.1,hp.it.2]
 cases cC s (opds op) with
 | none => rfl
 | some vs =>
  simp only [Bool.false_eq_true,if_false,pW,memD,box]
  cases evOp E call thaw (pack h (aD aI h (idsL vs) [])) (lV dst op) (aP (aH (aD aI h (idsL vs) [])) vs) with
  | none => rfl
  | some r =>
   obtain ⟨a,h1⟩:=r
   by_cases hc:(aD aI h (idsL vs) []).length ≤ h1.length ∧ closed h (aD aI h (idsL vs) []) (idsL vs) = true
   ·simp only [if_pos hc]
    by_cases hr:(gH E op vs && h1.length - (aD aI h (idsL vs) []).length == 0) = true
    ·simp only [if_pos hr]
    ·simp only [if_neg hr]
   ·simp only [if_neg hc]
theorem JM {op:Op} {q:A → H → Foot → Option R} (hp:Now (cV op = false ∧ pD op = true ∧ bZ op = false)):kOpD E call thaw dst op s h q = kvs s (opds op) fun vs => kOp E call thaw dst op s h fun a _ => q a h { ids:=ids0 vs,ro:=true }:=by
 unfold kOpD kOp kvs
 rw [hp.it.1,hp.it.2.1,hp.it.2.2]
 cases cC s (opds op) with
 | none => rfl
 | some vs => simp only [Bool.false_eq_true,if_false,if_true]
theorem P0 {x:Operand} {xs:List Operand} {op:Op} {q:A → H → Foot → Option R} (hx:opds op = x :: xs):(kvs s (opds op) fun vs => kOp E call thaw dst op s h fun a _ => q a h { ids:=ids0 vs,ro:=true }) = kv s x fun b => kOp E call thaw dst op s h fun a _ => q a h { ids:=idsA b,ro:=true }:=by
 unfold kOp kv
 rw [hx]
 unfold kvs
 simp only [cC]
 cases dN s x with
 | none => rfl
 | some b =>
  cases cC s xs with
  | none => rfl
  | some bs => rfl
theorem aKk {t:TypeId} {x:Operand} {q:A → H → Foot → Option R}:kOpD E call thaw dst (.load t x) s h q = kv s x fun b => kOp E call thaw dst (.load t x) s h fun a _ => q a h { ids:=idsA b,ro:=true }:=(JM ⟨rfl,rfl,rfl⟩).trans (P0 rfl)
theorem aDU {t:TypeId} {x y:Operand} {ok:Bool} {q:A → H → Foot → Option R}:kOpD E call thaw dst (.lookup t x y ok) s h q = kv s x fun b => kOp E call thaw dst (.lookup t x y ok) s h fun a _ => q a h { ids:=idsA b,ro:=true }:=(JM ⟨rfl,rfl,rfl⟩).trans (P0 rfl)
theorem aBj {t:TypeId} {q:A → H → Foot → Option R}:type_of% (gL (E:=E) (call:=call) (thaw:=thaw) (dst:=dst) (s:=s) (h:=h) (op:=.makeMap t none) (q:=q) ⟨rfl,rfl⟩):=gL ⟨rfl,rfl⟩
theorem UX {t:TypeId} {x y z:Operand} {q:A → H → Foot → Option R}:type_of% (gL (E:=E) (call:=call) (thaw:=thaw) (dst:=dst) (s:=s) (h:=h) (op:=.mapUpdate t x y z) (q:=q) ⟨rfl,rfl⟩):=gL ⟨rfl,rfl⟩
theorem aF8 {t:TypeId} {x y:Operand} {q:A → H → Foot → Option R}:type_of% (gL (E:=E) (call:=call) (thaw:=thaw) (dst:=dst) (s:=s) (h:=h) (op:=.store t x y) (q:=q) ⟨rfl,rfl⟩):=gL ⟨rfl,rfl⟩
theorem aDa {x:Operand} {q:A → H → Foot → Option R}:type_of% (gL (E:=E) (call:=call) (thaw:=thaw) (dst:=dst) (s:=s) (h:=h) (op:=.assign x) (q:=q) ⟨rfl,rfl⟩):=gL ⟨rfl,rfl⟩
theorem aGg {t:TypeId} {q:A → H → Foot → Option R}:type_of% (gL (E:=E) (call:=call) (thaw:=thaw) (dst:=dst) (s:=s) (h:=h) (op:=.alloc t) (q:=q) ⟨rfl,rfl⟩):=gL ⟨rfl,rfl⟩
theorem aLO {t:TypeId} {x:Operand} {q:A → H → Foot → Option R}:type_of% (gL (E:=E) (call:=call) (thaw:=thaw) (dst:=dst) (s:=s) (h:=h) (op:=.box t x) (q:=q) ⟨rfl,rfl⟩):=gL ⟨rfl,rfl⟩
theorem QH {t:TypeId} {n:Nat} {ps:List (Nat × Operand)} {q:A → H → Foot → Option R}:type_of% (gL (E:=E) (call:=call) (thaw:=thaw) (dst:=dst) (s:=s) (h:=h) (op:=.buildSlice t n ps.toArray) (q:=q) ⟨rfl,rfl⟩):=gL ⟨rfl,rfl⟩
theorem aKd {t u:TypeId} {x:Operand} {q:A → H → Foot → Option R}:type_of% (gL (E:=E) (call:=call) (thaw:=thaw) (dst:=dst) (s:=s) (h:=h) (op:=.convert t u x) (q:=q) ⟨rfl,rfl⟩):=gL ⟨rfl,rfl⟩
theorem TN {t:TypeId} {x y:Operand} {q:A → H → Foot → Option R}:type_of% (gL (E:=E) (call:=call) (thaw:=thaw) (dst:=dst) (s:=s) (h:=h) (op:=.makeSlice t x y) (q:=q) ⟨rfl,rfl⟩):=gL ⟨rfl,rfl⟩
theorem aGT {t:TypeId} {x:Operand} {lo hi mx:Option Operand} {q:A → H → Foot → Option R}:kOpD E call thaw dst (.slice t x lo hi mx) s h q = kv s x fun b => kOp E call thaw dst (.slice t x lo hi mx) s h fun a _ => q a h { ids:=idsA b,ro:=true }:=(JM ⟨rfl,rfl,rfl⟩).trans (P0 rfl)
theorem UG {t:TypeId} {x y:Operand} {q:A → H → Foot → Option R}:kOpD E call thaw dst (.indexAddr t x y) s h q = kv s x fun b => kOp E call thaw dst (.indexAddr t x y) s h fun a _ => q a h { ids:=idsA b,ro:=true }:=(JM ⟨rfl,rfl,rfl⟩).trans (P0 rfl)
theorem aEi {args tys:Array _} {q:A → H → Foot → Option R}:type_of% (gL (E:=E) (call:=call) (thaw:=thaw) (dst:=dst) (s:=s) (h:=h) (op:=.call ⟨.builtin .append,args,tys⟩) (q:=q) ⟨rfl,rfl⟩):=gL ⟨rfl,rfl⟩
theorem aMD {x:Operand} {xs:List Operand} {tys:Array _} {q:A → H → Foot → Option R}:kOpD E call thaw dst (.call ⟨.builtin .len,(x :: xs).toArray,tys⟩) s h q = kv s x fun b => kOp E call thaw dst (.call ⟨.builtin .len,(x :: xs).toArray,tys⟩) s h fun a _ => q a h { ids:=idsA b,ro:=true }:=(JM ⟨rfl,rfl,rfl⟩).trans (P0 rfl)
theorem aKa {x:Operand} {q:A → H → Foot → Option R}:type_of% (eH (E:=E) (call:=call) (thaw:=thaw) (dst:=dst) (s:=s) (h:=h) (op:=.move x) (q:=q) ⟨rfl,rfl⟩):=eH ⟨rfl,rfl⟩
theorem aJi {c x y:Operand} {q:A → H → Foot → Option R}:type_of% (eH (E:=E) (call:=call) (thaw:=thaw) (dst:=dst) (s:=s) (h:=h) (op:=.pick c x y) (q:=q) ⟨rfl,rfl⟩):=eH ⟨rfl,rfl⟩
theorem Y5 {x:Operand} {q:A → H → Foot → Option R}:type_of% (eH (E:=E) (call:=call) (thaw:=thaw) (dst:=dst) (s:=s) (h:=h) (op:=.nilCheck x) (q:=q) ⟨rfl,rfl⟩):=eH ⟨rfl,rfl⟩
theorem aL6 {op:BinOp} {t:TypeId} {x y:Operand} {t2:TypeId} {q:A → H → Foot → Option R}:type_of% (eH (E:=E) (call:=call) (thaw:=thaw) (dst:=dst) (s:=s) (h:=h) (op:=.binOp op t x y t2) (q:=q) ⟨rfl,rfl⟩):=eH ⟨rfl,rfl⟩
theorem aPf {op:UnOp} {t:TypeId} {x:Operand} {q:A → H → Foot → Option R}:type_of% (eH (E:=E) (call:=call) (thaw:=thaw) (dst:=dst) (s:=s) (h:=h) (op:=.unOp op t x) (q:=q) ⟨rfl,rfl⟩):=eH ⟨rfl,rfl⟩
theorem X7 {fn:Fn} {first cap:Array Operand} {q:A → H → Foot → Option R}:type_of% (eH (E:=E) (call:=call) (thaw:=thaw) (dst:=dst) (s:=s) (h:=h) (op:=.makeFunc fn first cap) (q:=q) ⟨rfl,rfl⟩):=eH ⟨rfl,rfl⟩
theorem TK {t:TypeId} {x:Operand} {f:Nat} {q:A → H → Foot → Option R}:type_of% (eH (E:=E) (call:=call) (thaw:=thaw) (dst:=dst) (s:=s) (h:=h) (op:=.fieldAddr t x f) (q:=q) ⟨rfl,rfl⟩):=eH ⟨rfl,rfl⟩
theorem aFK {t:TypeId} {x:Operand} {f:Nat} {q:A → H → Foot → Option R}:type_of% (eH (E:=E) (call:=call) (thaw:=thaw) (dst:=dst) (s:=s) (h:=h) (op:=.field t x f) (q:=q) ⟨rfl,rfl⟩):=eH ⟨rfl,rfl⟩
theorem aGy {t:TypeId} {x y:Operand} {q:A → H → Foot → Option R}:type_of% (eH (E:=E) (call:=call) (thaw:=thaw) (dst:=dst) (s:=s) (h:=h) (op:=.index t x y) (q:=q) ⟨rfl,rfl⟩):=eH ⟨rfl,rfl⟩
theorem aAm {x:Operand} {i:Nat} {q:A → H → Foot → Option R}:type_of% (eH (E:=E) (call:=call) (thaw:=thaw) (dst:=dst) (s:=s) (h:=h) (op:=.extract x i) (q:=q) ⟨rfl,rfl⟩):=eH ⟨rfl,rfl⟩
theorem aFX {t:TypeId} {ps:Array (Nat × Operand)} {q:A → H → Foot → Option R}:type_of% (eH (E:=E) (call:=call) (thaw:=thaw) (dst:=dst) (s:=s) (h:=h) (op:=.build t ps) (q:=q) ⟨rfl,rfl⟩):=eH ⟨rfl,rfl⟩
def aMf (a b:Foot):Bool:=(!a.ro && (!b.ids.isEmpty && a.wr.any b.ids.contains)) || (!b.ro && (!a.ids.isEmpty && b.wr.any a.ids.contains))
theorem aJN (a b:Foot):aMf a b = qX a b:=by
 obtain ⟨ia,ra,wa⟩:=a
 obtain ⟨ib,rb,wb⟩:=b
 unfold aMf qX
 cases ia <;> cases ib <;> simp
def MS (ops:List Oper) (cs:List Foot):Bool :=
 let b:=MJ ops []
 (List.range cs.length).all fun j => (List.range j).all fun i => (b.getD j 0).testBit i || !aMf (cs.getD i {}) (cs.getD j {})
theorem aJg {src:List Oper} {cs:List Foot} (h:nR src cs = true):MS src cs = true:=by
 unfold MS
 simp only [aJN]
 exact h
theorem aGA {src:List Oper} {cs:List Foot} {x:Option R} (hc:Shut (MS src cs = true)):(if nR src cs = true then x else none) = x:=if_pos (by
 have:=hc.it
 unfold MS at this
 simp only [aJN] at this
 exact this)
theorem aMJ {q:List A → H → Option R}:kOps E call thaw [] s h q = q s h:=rfl
theorem aJq {op:Op} {g:Option (Option Tmp × Bool)} {os:List SO} {q:List A → H → Option R}:kOps E call thaw (⟨dst,op,g⟩ :: os) s h q = z7 g s
  (fun s => kOp E call thaw dst op s h fun a h' => match box (aPut s dst a) with | .no => none | .mk s' => kOps E call thaw os s' h' q)
  (fun s => match box (aPut s dst (.d .undef)) with | .no => none | .mk s' => kOps E call thaw os s' h q):=rfl
theorem aK7 {cs:List Foot} {q:List A → H → List Foot → Option R}:A4 E call thaw [] s h cs q = q s h cs:=rfl
theorem aF5 {op:Op} {g:Option (Option Tmp × Bool)} {os:List SO} {cs:List Foot} {q:List A → H → List Foot → Option R}:A4 E call thaw (⟨dst,op,g⟩ :: os) s h cs q = z7 g s
  (fun s => kOpD E call thaw dst op s h fun a h' c => match box (aPut s dst a) with | .no => none | .mk s' => A4 E call thaw os s' h' (cs ++ [c]) q)
  (fun s => match box (aPut s dst (.d .undef)) with | .no => none | .mk s' => A4 E call thaw os s' h (cs ++ [{}]) q):=rfl
section
variable {L nf:Nat} {live:List Bool} {lp:Nat → Code} {q:Exit → List A → H → Option R}
theorem aGZ:aE E call L nf thaw live lp .skip s h q = q .normal s h:=rfl
theorem aLa {l:List SO}:aE E call L nf thaw live lp (.ops l) s h q = kOps E call thaw l s h fun s h => q .normal s h:=rfl
theorem aDv {l:List SO} {src:Array Oper}:aE E call L nf thaw live lp (.drawn l src) s h q = A4 E call thaw l s h [] fun s h cs => if nR src.toList cs = true then q .normal s h else none:=rfl
theorem aKC {a b:SC}:aE E call L nf thaw live lp (.seq a b) s h q = aE E call L nf thaw live lp a s h fun e s h => match e with
  | .normal => aE E call L nf thaw live lp b s h q
  | e => q e s h:=rfl
theorem aHM {c:Operand} {x y:SC}:aE E call L nf thaw live lp (.cond c x y) s h q = kv s c fun a => match a with
  | .d (.bool b) => if b = true then aE E call L nf thaw live lp x s h q else aE E call L nf thaw live lp y s h q
  | _ => none:=rfl
theorem aDQ {id:Nat} {c:SC}:aE E call L nf thaw live lp (.block id c) s h q = aE E call L nf thaw live lp c s h fun e s h => match e with
  | .exit i => if i = id then q .normal s h else q (.exit i) s h
  | e => q e s h:=rfl
theorem aHL {i:Nat}:aE E call L nf thaw live lp (.loop i) s h q = match box (rT live s) with
  | .no => none
  | .mk m => match box (gc nf m s h) with
   | .mk (s',h') => aJ E call L nf thaw live (lp i) m L s' h' q
   | .no => none:=rfl
theorem aGI {id:Nat}:aE E call L nf thaw live lp (.exit id) s h q = q (.exit id) s h:=rfl
theorem aJc:aE E call L nf thaw live lp .ret s h q = q .ret s h:=rfl
theorem aAT {c:Code} {m:List Bool} {n:Nat}:bL E call L nf thaw live c m n q .normal s h = match box (gc nf m s h) with
  | .mk (s',h') => aJ E call L nf thaw live c m n s' h' q
  | .no => none:=rfl
theorem aHh {c:Code} {m:List Bool} {n i:Nat}:bL E call L nf thaw live c m n q (.exit i) s h = match box (gc nf m s h) with
  | .mk (s',h') => q (.exit i) s' h'
  | .no => none:=rfl
theorem aJ0 {c:Code} {m:List Bool} {n:Nat}:bL E call L nf thaw live c m n q .ret s h = match box (gc nf m s h) with
  | .mk (s',h') => q .ret s' h'
  | .no => none:=rfl
end
def aW (E:Env) (call:b5) (h:H) (f:FuncId) (args:List A) (k:A → H → Option R):Option R :=
 match dX call E.hint (pack h (aD aI h (idsL args) [])) f (aP (aH (aD aI h (idsL args) [])) args) with
 | some (a,h1) =>
  if (aD aI h (idsL args) []).length ≤ h1.length ∧ closed h (aD aI h (idsL args) []) (idsL args) = true then
   k (mapA (back (aD aI h (idsL args) []) h.length h1.length) a) (bJ (back (aD aI h (idsL args) []) h.length h1.length) h (aD aI h (idsL args) []) h1)
  else none
 | none => none
theorem aVK {f:FuncId} {args:List Operand} {tys:Array TypeId}:kOp E call thaw dst (.call ⟨.value (.func f),args.toArray,tys⟩) s h k = kvs s args fun vs => aW E call h f vs k:=by
 unfold kOp kvs aW
 simp only [opds,cC,dN]
 cases cC s args with
 | none => rfl
 | some vs =>
  simp only [bZ,if_true,pW,idsL,idsA,List.nil_append,aP,mapA,evOp,i7,l3,lV,List.append_nil]
  cases dX call E.hint (pack h (aD aI h (idsL vs) [])) f (aP (aH (aD aI h (idsL vs) [])) vs) with
  | none => rfl
  | some r =>
   obtain ⟨a,h1⟩:=r
   by_cases c1:(aD aI h (idsL vs) []).length ≤ h1.length <;> by_cases c2:closed h (aD aI h (idsL vs) []) (idsL vs) = true <;> simp [c1,c2]
theorem aJn {f:FuncId} {args:List Operand} {tys:Array TypeId}:kOp E call thaw dst (.call ⟨.value (.func f),args.toArray,tys⟩) s h k = kvs s args fun vs => aW E call h f vs fun a h' => match box h' with | .no => none | .mk h'' => k a h'':=by
 rw [aVK]
 rfl
def EQ (E:Env) (call:b5) (h:H) (f:FuncId) (caps args:List A) (k:A → H → Option R):Option R :=
 match dX call E.hint (pack h (aD aI h (idsL caps ++ idsL args) [])) f (aP (aH (aD aI h (idsL caps ++ idsL args) [])) args ++ aP (aH (aD aI h (idsL caps ++ idsL args) [])) caps) with
 | some (a,h1) =>
  if (aD aI h (idsL caps ++ idsL args) []).length ≤ h1.length ∧ closed h (aD aI h (idsL caps ++ idsL args) []) (idsL caps ++ idsL args) = true then
   k (mapA (back (aD aI h (idsL caps ++ idsL args) []) h.length h1.length) a) (bJ (back (aD aI h (idsL caps ++ idsL args) []) h.length h1.length) h (aD aI h (idsL caps ++ idsL args) []) h1)
  else none
 | none => none
def r9 (E:Env) (call:b5) (h:H) (g:A) (args:List A) (k:A → H → Option R):Option R :=
 match g with
 | .d (.fn f caps) => aW E call h f (args ++ caps.map .d) k
 | .clo f caps => EQ E call h f caps args k
 | _ => none
theorem kN:∀ (as bs:List A),idsL (as ++ bs) = idsL as ++ idsL bs
 | [],bs => by simp [idsL]
 | a :: as,bs => by simp [idsL,kN as bs]
theorem aNs:∀ (ds:List D),idsL (ds.map .d) = []
 | [] => by simp [idsL]
 | d :: ds => by simp [idsL,idsA,aNs ds]
theorem J2 {f:Nat → Option Nat}:∀ (as bs:List A),aP f (as ++ bs) = aP f as ++ aP f bs
 | [],bs => by simp [aP]
 | a :: as,bs => by simp [aP,J2 as bs]
theorem aIG {f:Nat → Option Nat}:∀ (ds:List D),aP f (ds.map .d) = ds.map .d
 | [] => by simp [aP]
 | d :: ds => by simp [aP,mapA,aIG ds]
theorem aSk {g:A} {vs:List A} {tys:Array TypeId} {x:Operand} {args:Array Operand}:(match pW E call thaw h (lV dst (.call ⟨.value x,args,tys⟩)) (g :: vs) with
   | some (a,h',_) => k a h'
   | none => none) = r9 E call h g vs k:=by
 unfold pW
 simp only [evOp,i7,lV,aP]
 cases g with
 | d y =>
  cases y with
  | fn f caps =>
   simp only [r9,aW,mapA,l3,idsL,idsA,List.nil_append,kN,aNs,List.append_nil,J2,aIG]
   cases dX call E.hint (pack h (aD aI h (idsL vs) [])) f (aP (aH (aD aI h (idsL vs) [])) vs ++ caps.map .d) with
   | none => rfl
   | some r =>
    obtain ⟨a,h1⟩:=r
    by_cases c1:(aD aI h (idsL vs) []).length ≤ h1.length <;> by_cases c2:closed h (aD aI h (idsL vs) []) (idsL vs) = true <;> simp [c1,c2]
  | _ => simp only [r9,mapA,l3]
 | clo f caps =>
  simp only [r9,EQ,mapA,l3,idsL,idsA]
  cases dX call E.hint (pack h (aD aI h (idsL caps ++ idsL vs) [])) f (aP (aH (aD aI h (idsL caps ++ idsL vs) [])) vs ++ aP (aH (aD aI h (idsL caps ++ idsL vs) [])) caps) with
  | none => rfl
  | some r =>
   obtain ⟨a,h1⟩:=r
   by_cases c1:(aD aI h (idsL caps ++ idsL vs) []).length ≤ h1.length <;> by_cases c2:closed h (aD aI h (idsL caps ++ idsL vs) []) (idsL caps ++ idsL vs) = true <;> simp [c1,c2]
 | sl id gen off len =>
  simp only [r9,mapA]
  cases aH (aD aI h (idsL (A.sl id gen off len :: vs)) []) id <;> rfl
 | ptr id gen off =>
  simp only [r9,mapA]
  cases aH (aD aI h (idsL (A.ptr id gen off :: vs)) []) id <;> rfl
 | mp id =>
  simp only [r9,mapA]
  cases aH (aD aI h (idsL (A.mp id :: vs)) []) id <;> rfl
 | agg cs => simp only [r9,mapA,l3]
 | tup cs => simp only [r9,mapA,l3]
 | junk => simp only [r9,mapA,l3]
theorem aKl {t:Nat} {args:List Operand} {tys:Array TypeId}:kOp E call thaw dst (.call ⟨.value (.tmp t),args.toArray,tys⟩) s h k = match box (s.getD t (.d .undef)) with
  | .no => none
  | .mk g => kvs s args fun vs => r9 E call h g vs k:=by
 unfold kOp kvs
 simp only [opds,cC,dN,box]
 cases cC s args with
 | none => rfl
 | some vs => simp only [bZ,if_true]; exact aSk
theorem aKh {f:FuncId} {caps:List D} {vs:List A}:r9 E call h (.d (.fn f caps)) vs k = match box (vs ++ caps.map .d) with | .no => none | .mk as' => aW E call h f as' k:=rfl
theorem aFW {f:FuncId} {caps vs:List A}:r9 E call h (.clo f caps) vs k = EQ E call h f caps vs k:=rfl
theorem aFy {f:FuncId} {vs:List A}:EQ E call h f [] vs k = aW E call h f vs k:=by
 unfold EQ aW
 simp only [idsL,List.nil_append,aP,List.append_nil]
 rfl
theorem G6 {h:H} {ids:List Nat} {h1:H} {ord:List Nat}:∀ (ord:List Nat) (h h1:H) (f:Nat → Option Nat),ord.length ≤ h1.length → (bJ f h ord h1).length = h.length + (h1.length - ord.length)
 | [],h,h1,f,_ => by simp [bJ]
 | i :: ord,h,[],f,hl => by simp at hl
 | i :: ord,h,o :: h1,f,hl => by
  simp only [bJ,G6 (h:=h) (ids:=ids) (h1:=h1) (ord:=ord) ord _ h1 f (by simpa using hl),List.length_set,List.length_cons]
  omega
def wrC (E:Env) (f:FuncId) (ord:List Nat):List Nat:=if (E.hint f).mode == 3 then [] else ord
def rW (E:Env) (f:FuncId) (h h':H) (ord:List Nat):Option (H × Foot):=if ((E.hint f).mode == 1 && h'.length - h.length == 0) = true then some (h,{ ids:=ord,ro:=true }) else some (h',{ ids:=ord ++ List.range' h.length (h'.length - h.length),ro:=false,wr:=wrC E f ord ++ List.range' h.length (h'.length - h.length) })
theorem aQk {f:FuncId} {args:List Operand} {tys:Array TypeId} {q:A → H → Foot → Option R}:kOpD E call thaw dst (.call ⟨.value (.func f),args.toArray,tys⟩) s h q = kvs s args fun vs => match box (aD aI h (idsL vs) []) with
  | .no => none
  | .mk ord => aW E call h f vs fun a h' => if ((E.hint f).mode == 1 && h'.length - h.length == 0) = true then q a h { ids:=ord,ro:=true } else q a h' { ids:=ord ++ List.range' h.length (h'.length - h.length),ro:=false,wr:=wrC E f ord ++ List.range' h.length (h'.length - h.length) }:=by
 unfold kOpD kvs aW
 simp only [opds,cC,dN,box]
 cases cC s args with
 | none => rfl
 | some vs =>
  simp only [cV,pD,Bool.false_eq_true,if_false,pW,idsL,idsA,List.nil_append,aP,mapA,evOp,i7,l3,lV,List.append_nil,gH]
  cases dX call E.hint (pack h (aD aI h (idsL vs) [])) f (aP (aH (aD aI h (idsL vs) [])) vs) with
  | none => rfl
  | some r =>
   obtain ⟨a,h1⟩:=r
   by_cases c1:(aD aI h (idsL vs) []).length ≤ h1.length
   ·by_cases c2:closed h (aD aI h (idsL vs) []) (idsL vs) = true
    ·have e:=G6 (h:=h) (ids:=idsL vs) (h1:=h1) (ord:=[]) (aD aI h (idsL vs) []) h h1 (back (aD aI h (idsL vs) []) h.length h1.length) c1
     have e2:(bJ (back (aD aI h (idsL vs) []) h.length h1.length) h (aD aI h (idsL vs) []) h1).length - h.length = h1.length - (aD aI h (idsL vs) []).length:=by omega
     simp only [c1,c2,and_self,if_true,e2]
     first | done | rfl | (by_cases c3:((E.hint f).mode == 1 && h1.length - (aD aI h (idsL vs) []).length == 0) = true <;> simp [c3])
    ·simp only [c2,and_false,if_false,Bool.false_eq_true]
   ·simp only [c1,false_and,if_false]
theorem aB4 {f:FuncId} {args:List Operand} {tys:Array TypeId} {q:A → H → Foot → Option R}:kOpD E call thaw dst (.call ⟨.value (.func f),args.toArray,tys⟩) s h q = kvs s args fun vs => match box (aD aI h (idsL vs) []) with
  | .no => none
  | .mk ord => aW E call h f vs fun a h' => match box (rW E f h h' ord) with | .mk (some (h'',c)) => q a h'' c | _ => none:=by
 rw [aQk]
 congr 1
 funext vs
 simp only [box]
 congr 1
 funext a h'
 unfold rW
 by_cases hc:((E.hint f).mode == 1 && h'.length - h.length == 0) = true
 ·simp only [if_pos hc]
 ·simp only [if_neg hc]
theorem aOw {t:Nat} {args:List Operand} {tys:Array TypeId} {q:A → H → Foot → Option R} {f:FuncId} {caps:List D} (hg:Now (s.getD t (.d .undef) = .d (.fn f caps))):kOpD E call thaw dst (.call ⟨.value (.tmp t),args.toArray,tys⟩) s h q = kvs s args fun vs => match box (aD aI h (idsL vs) []) with
  | .no => none
  | .mk ord => aW E call h f (vs ++ caps.map .d) fun a h' => if ((E.hint f).mode == 1 && h'.length - h.length == 0) = true then q a h { ids:=ord,ro:=true } else q a h' { ids:=ord ++ List.range' h.length (h'.length - h.length),ro:=false,wr:=wrC E f ord ++ List.range' h.length (h'.length - h.length) }:=by
 have hg:=hg.it
 unfold kOpD kvs aW
 simp only [opds,cC,dN,box,hg]
 cases cC s args with
 | none => rfl
 | some vs =>
  simp only [cV,pD,Bool.false_eq_true,if_false,pW,idsL,idsA,List.nil_append,aP,mapA,evOp,i7,l3,lV,List.append_nil,gH,kN,aNs,J2,aIG]
  cases dX call E.hint (pack h (aD aI h (idsL vs) [])) f (aP (aH (aD aI h (idsL vs) [])) vs ++ caps.map .d) with
  | none => rfl
  | some r =>
   obtain ⟨a,h1⟩:=r
   by_cases c1:(aD aI h (idsL vs) []).length ≤ h1.length
   ·by_cases c2:closed h (aD aI h (idsL vs) []) (idsL vs) = true
    ·have e:=G6 (h:=h) (ids:=idsL vs) (h1:=h1) (ord:=[]) (aD aI h (idsL vs) []) h h1 (back (aD aI h (idsL vs) []) h.length h1.length) c1
     have e2:(bJ (back (aD aI h (idsL vs) []) h.length h1.length) h (aD aI h (idsL vs) []) h1).length - h.length = h1.length - (aD aI h (idsL vs) []).length:=by omega
     simp only [c1,c2,and_self,if_true,e2]
     first | done | rfl | (by_cases c3:((E.hint f).mode == 1 && h1.length - (aD aI h (idsL vs) []).length == 0) = true <;> simp [c3])
    ·simp only [c2,and_false,if_false,Bool.false_eq_true]
   ·simp only [c1,false_and,if_false]
def aYQ (E:Env) (call:b5) (thaw:List Nat) (dst:Option Tmp) (op:Op) (s:List A) (h:H) (q:A → H → Foot → Option R):Option R:=kOpD E call thaw dst op s h q
theorem aHp {t:Nat} {args:List Operand} {tys:Array TypeId} {q:A → H → Foot → Option R}:kOpD E call thaw dst (.call ⟨.value (.tmp t),args.toArray,tys⟩) s h q = match box (s.getD t (.d .undef)) with
  | .mk (.d (.fn f caps)) => kvs s args fun vs => match box (aD aI h (idsL vs) []) with
   | .no => none
   | .mk ord => match box (vs ++ caps.map .d) with | .no => none | .mk as' => aW E call h f as' fun a h' => match box (rW E f h h' ord) with | .mk (some (h'',c)) => q a h'' c | _ => none
  | .mk (.clo f []) => kvs s args fun vs => match box (aD aI h (idsL vs) []) with
   | .no => none
   | .mk ord => aW E call h f vs fun a h' => match box (rW E f h h' ord) with | .mk (some (h'',c)) => q a h'' c | _ => none
  | _ => aYQ E call thaw dst (.call ⟨.value (.tmp t),args.toArray,tys⟩) s h q:=by
 have key:=fun (f:FuncId) (caps:List D) hg => aOw (E:=E) (call:=call) (thaw:=thaw) (dst:=dst) (s:=s) (h:=h) (t:=t) (args:=args) (tys:=tys) (q:=q) (f:=f) (caps:=caps) hg
 have k2:∀ f,s.getD t (.d .undef) = .clo f [] → kOpD E call thaw dst (.call ⟨.value (.tmp t),args.toArray,tys⟩) s h q = kOpD E call thaw dst (.call ⟨.value (.func f),args.toArray,tys⟩) s h q:=by
  intro f hg
  unfold kOpD kvs
  simp only [opds,cC,dN,hg]
  cases cC s args <;> rfl
 have fold:∀ (f:FuncId) (h h':H) (ord:List Nat) (a:A),(if ((E.hint f).mode == 1 && h'.length - h.length == 0) = true then q a h { ids:=ord,ro:=true } else q a h' { ids:=ord ++ List.range' h.length (h'.length - h.length),ro:=false,wr:=wrC E f ord ++ List.range' h.length (h'.length - h.length) }) = match box (rW E f h h' ord) with | .mk (some (h'',c)) => q a h'' c | _ => none:=by
  intro f h h' ord a
  unfold rW
  by_cases hc:((E.hint f).mode == 1 && h'.length - h.length == 0) = true
  ·simp only [if_pos hc,box]
  ·simp only [if_neg hc,box]
 generalize hs:s.getD t (.d .undef) = a
 cases a with
 | d x =>
  cases x with
  | fn f caps =>
   rw [key f caps ⟨hs⟩]
   simp only [fold]
   rfl
  | _ => rfl
 | clo f caps =>
  cases caps with
  | nil => rw [k2 f hs]; exact aB4
  | cons c caps => rfl
 | _ => rfl
theorem W5 (n:Nat) (h:H):aD n h [] [] = []:=by cases n <;> rfl
mutual
theorem C6 {f:Nat → Option Nat}:∀ a:A,idsA a = [] → mapA f a = a
 | .d x,_ => by simp only [mapA]
 | .sl id gen off len,h => by simp [idsA] at h
 | .ptr id gen off,h => by simp [idsA] at h
 | .mp id,h => by simp [idsA] at h
 | .clo g caps,h => by simp only [idsA] at h; simp only [mapA]; rw [uP caps h]
 | .agg cs,h => by simp only [idsA] at h; simp only [mapA]; rw [uP cs h]
 | .tup cs,h => by simp only [idsA] at h; simp only [mapA]; rw [uP cs h]
 | .junk,_ => by simp only [mapA]
theorem uP {f:Nat → Option Nat}:∀ as:List A,idsL as = [] → aP f as = as
 | [],_ => by simp only [aP]
 | a :: as,h => by
  simp only [idsL,List.append_eq_nil_iff] at h
  simp only [aP]
  rw [C6 a h.1,uP as h.2]
end
theorem aTW {a:A} (h:yC a = true):idsA a = []:=by
 cases a with
 | d x => rfl
 | agg cs =>
  simp only [yC] at h
  simp only [idsA]
  induction cs with
  | nil => rfl
  | cons c cs ih =>
   simp only [List.all_cons,Bool.and_eq_true] at h
   simp only [idsL,ih h.2,List.append_nil]
   cases c <;> first | rfl | simp [isD] at h
 | _ => simp [yC] at h
theorem uC:∀ {as:List A},as.all yC = true → idsL as = []
 | [],_ => rfl
 | a :: as,h => by
  simp only [List.all_cons,Bool.and_eq_true] at h
  simp only [idsL,aTW h.1,uC h.2,List.append_nil]
theorem aHf {h:H}:∀ {cs:List A},cs.all isD = true → ∃ ds,frzL h cs = some (ds,h) ∧ ds.map .d = cs
 | [],_ => ⟨[],rfl,rfl⟩
 | c :: cs,hs => by
  simp only [List.all_cons,Bool.and_eq_true] at hs
  obtain ⟨ds,h1,h2⟩:=aHf (h:=h) hs.2
  cases c with
  | d x =>
   refine ⟨x :: ds,?_,by simp [h2]⟩
   unfold frzL at h1 ⊢
   simp only [iL]
   have:frz deep h (.d x) = some (x,h):=rfl
   rw [this]
   simp only [h1]
  | _ => simp [isD] at hs
theorem vB {h:H}:∀ {as:List A},as.all yC = true → k5 h as = some (as,h)
 | [],_ => rfl
 | a :: as,hs => by
  simp only [List.all_cons,Bool.and_eq_true] at hs
  have ha:frzA h a = some (a,h):=by
   cases a with
   | d x => rfl
   | agg cs =>
    obtain ⟨ds,h1,h2⟩:=aHf (h:=h) (cs:=cs) (by simpa only [yC] using hs.1)
    simp only [frzA,h1,h2]
   | _ => simp [yC] at hs
  simp only [k5,ha,vB hs.2]
theorem aOe {r:A} (h:mR r = true):pO r = true ∧ mapA (fun k => back [] 0 0 k) r = r:=by
 cases r with
 | d x => cases x <;> first | exact ⟨rfl,rfl⟩ | simp [mR] at h
 | tup vs =>
  simp only [mR] at h
  have key:oB vs = true ∧ aP (fun k => back [] 0 0 k) vs = vs:=by
   induction vs with
   | nil => exact ⟨rfl,by simp only [aP]⟩
   | cons v vs ih =>
    simp only [List.all_cons,Bool.and_eq_true] at h
    obtain ⟨i1,i2⟩:=ih h.2
    cases v with
    | d x => cases x <;> first | (exfalso; simp at h; done) | (refine ⟨by simp only [oB,pO,x7,i1,Bool.and_self],by simp only [aP,mapA,i2]⟩)
    | _ => simp at h
  exact ⟨by simp only [pO]; exact key.1,by simp only [mapA,key.2]⟩
 | _ => simp [mR] at h
theorem aOm {f:FuncId} {args:List A} {r:A} (hs:args.all yC = true) (hc:call f args [] = some (r,[])) (hp:mR r = true ∨ ((E.hint f).mode == 1 || (E.hint f).mode == 3) = false):dX call E.hint [] f args = some (r,[]):=by
 unfold dX
 split
 ·exact hc
 ·rename_i hm
  rw [vB hs]
  simp only [hc]
  rcases hp with hp | hp
  ·rw [hp]; rfl
  ·rw [hm] at hp; cases hp
 ·rename_i hm
  rw [vB hs]
  simp only [hc]
  rcases hp with hp | hp
  ·obtain ⟨h1,h2⟩:=aOe hp
   rw [h1]
   simp only [List.all_nil,Bool.and_self,if_true,List.length_nil,List.map_nil,List.append_nil]
   exact congrArg (fun x => some (x,([]:H))) h2
  ·rw [hm] at hp; cases hp
 ·rw [vB hs]
  simp only [hc]
theorem eO {f:FuncId} {args:List A} {r:A} (hs:args.all yC = true) (hc:call f args [] = some (r,[])) (hr:idsA r = []) (hp:mR r = true ∨ ((E.hint f).mode == 1 || (E.hint f).mode == 3) = false):aW E call h f args k = k r h:=by
 unfold aW
 rw [uC hs,W5,uP _ (uC hs)]
 have:pack h [] = []:=rfl
 rw [this,aOm hs hc hp]
 simp only [List.length_nil,Nat.le_refl,true_and,closed,List.all_nil,Bool.and_self,if_true,C6 r hr,bJ,List.map_nil,List.append_nil]
def rS (call:b5) (f:FuncId) (args:List A) (k:A → Option R):Option R :=
 match call f args [] with
 | some (r,[]) => if mR r = true then k r else none
 | _ => none
theorem bY {f:FuncId} {args:List A} {r:A} {k:A → Option R} (hc:call f args [] = some (r,[])) (hp:mR r = true):rS call f args k = k r:=by
 unfold rS
 rw [hc]
 simp only [hp,if_true]
theorem aTy {r:A} (h:mR r = true):idsA r = []:=by
 cases r with
 | d x => rfl
 | tup vs =>
  simp only [mR] at h
  simp only [idsA]
  induction vs with
  | nil => rfl
  | cons v vs ih =>
   simp only [List.all_cons,Bool.and_eq_true] at h
   simp only [idsL,ih h.2,List.append_nil]
   cases v with
   | d x => rfl
   | _ => simp at h
 | _ => simp [mR] at h
theorem aS3 (ord:List Nat) (n:Nat):back ord n ord.length = fun k => ord[k]?:=by
 funext k
 unfold back
 split
 ·rfl
 ·rename_i h
  rw [List.getElem?_eq_none (by omega)]
theorem aAV {h:H} {ord ids:List Nat} (hc:closed h ord ids = true) (hn:ord.Nodup) (hl:∀ i ∈ ord,i < h.length):bJ (fun (k:Nat) => ord[k]?) h ord (pack h ord) = h:=by
 apply List.ext_getElem?
 intro id
 rw [rE _ ord h _ id hn hl (by simp [pack])]
 cases hp:aH ord id with
 | none =>
  simp only []
  split
  ·rfl
  ·rename_i hge
   rw [List.getElem?_eq_none (by simp [pack]),List.getElem?_eq_none (by omega)]
   rfl
 | some k =>
  simp only []
  have hm:=aBz hp
  obtain ⟨o,ho⟩:∃ o,h[id]? = some o:=⟨h[id]'(hl id hm),List.getElem?_eq_getElem _⟩
  rw [sG (cX hp) ho,ho,Option.map_some,aJs hc hm ho]
theorem aNW {f:FuncId} {args:List A} (hm:(E.hint f).mode = 1):aW E call h f args k = match box (aD aI h (idsL args) []) with
  | .no => none
  | .mk ord => match box (k5 (pack h ord) (aP (aH ord) args)) with
   | .mk (some (fs,_)) => if closed h ord (idsL args) = true then rS call f fs fun r => k r h else none
   | _ => none:=by
 unfold aW dX
 rw [hm]
 simp only [box]
 cases hf:k5 (pack h (aD aI h (idsL args) [])) (aP (aH (aD aI h (idsL args) [])) args) with
 | none => rfl
 | some r =>
  obtain ⟨fs,h1⟩:=r
  simp only [rS]
  cases hc:call f fs [] with
  | none => simp
  | some r =>
   obtain ⟨a,h2⟩:=r
   cases h2 with
   | cons o h2 => simp
   | nil =>
    simp only []
    by_cases hp:mR a = true
    ·simp only [hp,if_true]
     have hlen:(pack h (aD aI h (idsL args) [])).length = (aD aI h (idsL args) []).length:=by simp [pack]
     simp only [hlen,Nat.le_refl,true_and]
     by_cases hcl:closed h (aD aI h (idsL args) []) (idsL args) = true
     ·simp only [hcl,if_true,aS3,C6 a (aTy hp)]
      rw [aAV hcl (fE aI h (idsL args) [] (by simp)) (j2 aI h (idsL args) [] (by simp))]
     ·simp only [hcl,Bool.false_eq_true,if_false]
    ·simp only [hp,Bool.false_eq_true,if_false]
     simp
def QD (h:H) (args:List A):Option (List A):=match box (aD aI h (idsL args) []) with
 | .no => none
 | .mk ord => match box (k5 (pack h ord) (aP (aH ord) args)) with
  | .mk (some (fs,_)) => if closed h ord (idsL args) = true then some fs else none
  | _ => none
theorem aF {f:FuncId} {args:List A} (hm:(E.hint f).mode = 1):aW E call h f args k = match box (QD h args) with
  | .mk (some fs) => rS call f fs fun r => k r h
  | _ => none:=by
 rw [aNW hm]
 unfold QD
 simp only [box]
 cases k5 (pack h (aD aI h (idsL args) [])) (aP (aH (aD aI h (idsL args) [])) args) with
 | none => rfl
 | some r =>
  obtain ⟨fs,h1⟩:=r
  simp only []
  by_cases hc:closed h (aD aI h (idsL args) []) (idsL args) = true
  ·simp only [if_pos hc]
  ·simp only [if_neg hc]
theorem aPr {nf:Nat} {h:H} {ord:List Nat} {s:List A}:trim nf h ord s = match box (pack h ord) with
  | .mk p => (dD nf p (aP (aH ord) s),mO nf p)
  | .no => ([],[]):=rfl
theorem aXK {nf:Nat} {m:List Bool} {s:List A} {h:H}:gc nf m s h = match box (tidy m s) with
  | .mk s1 => match box (eV nf h (idsL s1)) with
   | .mk ord => trim nf h ord s1
   | .no => ([],[])
  | .no => ([],[]):=rfl
theorem aPg {P:Program} {nf:Nat} {exp:Bool} {rs:List ResultVar} {e:Exit} {s:List A} {h:H}:kFin P nf exp rs e s h =
  if jO e then (match pR P s h rs with
   | some rs => match DH nf exp h rs with
    | some (xs,h2) => match box (eV nf h2 (idsL xs)) with
     | .mk ord => match box (trim nf h2 ord xs) with
      | .mk r => some (tupA r.1,r.2)
      | .no => none
     | .no => none
    | none => none
   | none => none) else none:=rfl
theorem aFB (nf:Nat) (h:H) (ids:List Nat):eV nf h ids = aD 1099511627776 h (jG (h.take nf) ++ ids) (List.range nf):=rfl
theorem rng0:List.range 0 = []:=rfl
theorem rng1:List.range 1 = [0]:=rfl
theorem rng2:List.range 2 = [0,1]:=rfl
theorem rng3:List.range 3 = [0,1,2]:=rfl
theorem xY (h:H) (ids:List Nat):eV 0 h ids = aD 1099511627776 h ids []:=by
 unfold eV
 simp only [List.take_zero,jG,List.nil_append,List.range_zero]
 rfl
theorem aJB (n:Nat) (h:H) (acc:List Nat):aD n h [] acc = acc:=by cases n <;> rfl
theorem aHl (n:Nat) (h:H) (i:Nat) (todo acc:List Nat):aD (n + 1) h (i :: todo) acc = if acc.contains i = true then aD n h todo acc
  else match h.getD i .void with
   | .box cs => aD n h (todo ++ idsL cs) (acc ++ [i])
   | .vec cs _ _ => aD n h (todo ++ idsL cs) (acc ++ [i])
   | .void => aD n h todo acc
   | _ => aD n h todo (acc ++ [i]):=by
 simp only [aD,List.getD_eq_getElem?_getD]
 split
 ·rfl
 ·cases h[i]? with
  | none => rfl
  | some o => cases o <;> rfl
theorem aMb {α:Type} {c:Prop} [Decidable c] {a:α} (hc:c):(if c then some a else none) = some a:=if_pos hc
def iAnd (k:IntKind) (a b:Int):Int:=k.wrap (BitVec.ofInt k.bits a &&& BitVec.ofInt k.bits b).toNat
def iOr (k:IntKind) (a b:Int):Int:=k.wrap (BitVec.ofInt k.bits a ||| BitVec.ofInt k.bits b).toNat
def iXor (k:IntKind) (a b:Int):Int:=k.wrap (BitVec.ofInt k.bits a ^^^ BitVec.ofInt k.bits b).toNat
def aYb (k:IntKind) (a b:Int):Int:=k.wrap (BitVec.ofInt k.bits a &&& ~~~BitVec.ofInt k.bits b).toNat
section
variable {t:TypeId} {K:IntKind} {a b:Int}
theorem aKJ:cY E .add t h (.d (.int K a)) (.d (.int K b)) = some (.d (.int K (K.wrap (a + b))),h):=by simp [cY,aBin]; rfl
theorem aI8:cY E .sub t h (.d (.int K a)) (.d (.int K b)) = some (.d (.int K (K.wrap (a - b))),h):=by simp [cY,aBin]; rfl
theorem aJY:cY E .mul t h (.d (.int K a)) (.d (.int K b)) = some (.d (.int K (K.wrap (a * b))),h):=by simp [cY,aBin]; rfl
theorem aJI:cY E .and t h (.d (.int K a)) (.d (.int K b)) = some (.d (.int K (iAnd K a b)),h):=by simp [cY,aBin]; rfl
theorem aNS:cY E .or t h (.d (.int K a)) (.d (.int K b)) = some (.d (.int K (iOr K a b)),h):=by simp [cY,aBin]; rfl
theorem aJx:cY E .xor t h (.d (.int K a)) (.d (.int K b)) = some (.d (.int K (iXor K a b)),h):=by simp [cY,aBin]; rfl
theorem aAk:cY E .andNot t h (.d (.int K a)) (.d (.int K b)) = some (.d (.int K (aYb K a b)),h):=by simp [cY,aBin]; rfl
theorem aJe:cY E .lss t h (.d (.int K a)) (.d (.int K b)) = some (.d (.bool (decide (a < b))),h):=by simp [cY,aBin]
theorem aJH:cY E .leq t h (.d (.int K a)) (.d (.int K b)) = some (.d (.bool (decide (a ≤ b))),h):=by simp [cY,aBin]
theorem aJm:cY E .gtr t h (.d (.int K a)) (.d (.int K b)) = some (.d (.bool (decide (b < a))),h):=by simp [cY,aBin]
theorem aK0:cY E .geq t h (.d (.int K a)) (.d (.int K b)) = some (.d (.bool (decide (b ≤ a))),h):=by simp [cY,aBin]
theorem aI5:cY E .eql t h (.d (.int K a)) (.d (.int K b)) = some (.d (.bool (decide (a = b))),h):=by simp [cY,aBin]; rfl
theorem aK8:cY E .neq t h (.d (.int K a)) (.d (.int K b)) = some (.d (.bool (!decide (a = b))),h):=by simp [cY,aBin]; rfl
theorem aKs (hb:b ≠ 0):cY E .quo t h (.d (.int K a)) (.d (.int K b)) = some (.d (.int K (K.wrap (a.tdiv b))),h):=by simp [cY,aBin,hb]
theorem aJ1 (hb:b ≠ 0):cY E .rem t h (.d (.int K a)) (.d (.int K b)) = some (.d (.int K (a.tmod b)),h):=by simp [cY,aBin,hb]
theorem aKq {K2:IntKind} (hb:0 ≤ b):cY E .shl t h (.d (.int K a)) (.d (.int K2 b)) = some (.d (.int K (K.wrap (a * 2 ^ (min b.toNat K.bits)))),h):=by
 have:¬ b < 0:=by omega
 simp [cY,aBin,Op.shift,this]; rfl
theorem aKn {K2:IntKind} (hb:0 ≤ b):cY E .shr t h (.d (.int K a)) (.d (.int K2 b)) = some (.d (.int K (a.fdiv (2 ^ (min b.toNat K.bits)))),h):=by
 have:¬ b < 0:=by omega
 simp [cY,aBin,Op.shift,this]; rfl
theorem aOI {b:Bool}:aUn .not (.d (.bool b)) = some (.d (.bool (!b))):=rfl
end
end
theorem WD:type_of% (AI @aGZ (AI @aLa (AI @aDv (AI @aKC (AI @aHM (AI @aDQ (AI @aHL (AI @aGI (AI @aJc (AI @aMJ (AI @aJq (AI @aK7 (AI @aF5 (AI @aDR (AI @aEh (AI @aTo (AI @aUE (AI @aO1 (AI @aS7 (AI @aPp (AI @aOR (AI @aPd (AI @aTj (AI @aPe (AI @aLW (AI @aLT (AI @TI (AI @N9 (AI @RM (AI @aPu (AI @aSE (AI @aLL (AI @aAo (AI @aMo (AI @aMK (AI @aKB (AI @aJW (AI @aOZ (AI @aK6 (AI @TH (AI @aCf (AI @YL (AI @aEf (AI @aDe (AI @aDf (AI @aEa (AI @YJ (AI @aKD (AI @ZL (AI @aJK (AI @aD0 (AI @aDE (AI @aJn (AI @aPg (AI @aAT (AI @aHh (AI @aJ0 (AI @aD9 (AI @aGL @ZR))))))))))))))))))))))))))))))))))))))))))))))))))))))))))) :=
 ⟨@aGZ,@aLa,@aDv,@aKC,@aHM,@aDQ,@aHL,@aGI,@aJc,@aMJ,@aJq,@aK7,@aF5,@aDR,@aEh,@aTo,@aUE,@aO1,@aS7,@aPp,@aOR,@aPd,@aTj,@aPe,@aLW,@aLT,@TI,@N9,@RM,@aPu,@aSE,@aLL,@aAo,@aMo,@aMK,@aKB,@aJW,@aOZ,@aK6,@TH,@aCf,@YL,@aEf,@aDe,@aDf,@aEa,@YJ,@aKD,@ZL,@aJK,@aD0,@aDE,@aJn,@aPg,@aAT,@aHh,@aJ0,@aD9,@aGL,@ZR⟩
theorem WDD:type_of% (AI @aKk (AI @aF8 (AI @aDa (AI @aGg (AI @aLO (AI @QH (AI @aKd (AI @TN (AI @aGT (AI @UG (AI @aEi (AI @aMD (AI @aKa (AI @aJi (AI @Y5 (AI @aL6 (AI @aPf (AI @X7 (AI @TK (AI @aFK (AI @aGy (AI @aAm (AI @aFX (AI @aB4 (AI @aKl (AI @aKh (AI @aFW (AI @aFy (AI @aDU (AI @aBj @UX)))))))))))))))))))))))))))))) :=
 ⟨@aKk,@aF8,@aDa,@aGg,@aLO,@QH,@aKd,@TN,@aGT,@UG,@aEi,@aMD,@aKa,@aJi,@Y5,@aL6,@aPf,@X7,@TK,@aFK,@aGy,@aAm,@aFX,@aB4,@aKl,@aKh,@aFW,@aFy,@aDU,@aBj,@UX⟩
theorem WK0:type_of% (AI @aS9 (AI @aOI (AI @aKJ (AI @aI8 (AI @aJY (AI @aJI (AI @aNS (AI @aJx (AI @aAk (AI @aKs (AI @aJ1 (AI @aKq (AI @aKn (AI @aJe (AI @aJH (AI @aJm (AI @aK0 (AI @aI5 (AI @aK8 (AI @ne_eq.{0} (AI @not_true_eq_false (AI @if_false.{0} (AI @if_true.{0} (AI @List.getD_nil.{0} (AI @List.getD_cons_zero.{0} (AI @List.getD_cons_succ.{0} (AI @List.set_cons_zero.{0} (AI @List.set_cons_succ.{0} (AI @aXK @aPr))))))))))))))))))))))))))))) :=
 ⟨@aS9,@aOI,@aKJ,@aI8,@aJY,@aJI,@aNS,@aJx,@aAk,@aKs,@aJ1,@aKq,@aKn,@aJe,@aJH,@aJm,@aK0,@aI5,@aK8,@ne_eq.{0},@not_true_eq_false,@if_false.{0},@if_true.{0},@List.getD_nil.{0},@List.getD_cons_zero.{0},@List.getD_cons_succ.{0},@List.set_cons_zero.{0},@List.set_cons_succ.{0},@aXK,@aPr⟩
theorem WK1:type_of% (AI @Bool.not_true (AI @Bool.not_false (AI @Bool.true_eq_false (AI @Bool.false_eq_true (AI @decide_eq_true_eq (AI @decide_eq_false_iff_not (AI @Option.map_some.{0,0} (AI @Option.bind_some.{0,0} (AI @List.append_nil.{0} (AI @List.nil_append.{0} (AI @List.map_nil.{0,0} (AI @decide_true (AI @decide_false (AI @Bool.not_eq_false' (AI @Bool.not_eq_true' (AI @aMb (AI @Nat.mul_one (AI @Nat.one_mul (AI @Nat.zero_add (AI @Nat.add_zero (AI @List.getElem?_cons_zero.{0} (AI @List.getElem?_cons_succ.{0} (AI @List.length_cons.{0} (AI @List.length_nil.{0} (AI @List.drop_zero.{0} (AI @List.all_cons.{0} (AI @List.all_nil.{0} (AI @Bool.and_self (AI @Bool.and_true @Bool.true_and))))))))))))))))))))))))))))) :=
 ⟨@Bool.not_true,@Bool.not_false,@Bool.true_eq_false,@Bool.false_eq_true,@decide_eq_true_eq,@decide_eq_false_iff_not,@Option.map_some.{0,0},@Option.bind_some.{0,0},@List.append_nil.{0},@List.nil_append.{0},@List.map_nil.{0,0},@decide_true,@decide_false,@Bool.not_eq_false',@Bool.not_eq_true',@aMb,@Nat.mul_one,@Nat.one_mul,@Nat.zero_add,@Nat.add_zero,@List.getElem?_cons_zero.{0},@List.getElem?_cons_succ.{0},@List.length_cons.{0},@List.length_nil.{0},@List.drop_zero.{0},@List.all_cons.{0},@List.all_nil.{0},@Bool.and_self,@Bool.and_true,@Bool.true_and⟩
theorem WK2:type_of% (AI @Bool.false_and (AI @Bool.and_false (AI @List.map_cons.{0,0} (AI @List.zip_cons_cons.{0,0} (AI @List.zip_nil_left.{0,0} (AI @List.flatten_cons.{0} (AI @List.flatten_nil.{0} (AI @List.take_zero.{0} (AI @List.take_nil.{0} (AI @List.drop_nil.{0} (AI @List.cons_append.{0} (AI @Bool.or_self (AI @Bool.or_false (AI @Bool.false_or (AI @Nat.not_lt_zero (AI @and_self (AI @and_true (AI @true_and (AI @Bool.or_true (AI @Bool.true_or (AI @Option.map_none.{0,0} (AI @List.drop_succ_cons.{0} (AI @List.take_succ_cons.{0} (AI @Nat.lt_irrefl (AI @List.head?_cons.{0} (AI @Option.any_some.{0} (AI @List.contains_cons.{0} (AI @List.contains_nil.{0} (AI @xY @aFB))))))))))))))))))))))))))))) :=
 ⟨@Bool.false_and,@Bool.and_false,@List.map_cons.{0,0},@List.zip_cons_cons.{0,0},@List.zip_nil_left.{0,0},@List.flatten_cons.{0},@List.flatten_nil.{0},@List.take_zero.{0},@List.take_nil.{0},@List.drop_nil.{0},@List.cons_append.{0},@Bool.or_self,@Bool.or_false,@Bool.false_or,@Nat.not_lt_zero,@and_self,@and_true,@true_and,@Bool.or_true,@Bool.true_or,@Option.map_none.{0,0},@List.drop_succ_cons.{0},@List.take_succ_cons.{0},@Nat.lt_irrefl,@List.head?_cons.{0},@Option.any_some.{0},@List.contains_cons.{0},@List.contains_nil.{0},@xY,@aFB⟩
theorem WK3:type_of% (AI @rng0 (AI @rng1 (AI @rng2 (AI @rng3 (AI @Option.getD_none.{0} (AI @Option.isNone_none.{0} (AI @Option.isNone_some.{0} (AI @Option.isSome_none.{0} (AI @Option.isSome_some.{0} (AI @aJB (AI @aHl (AI @beq_self_eq_true.{0} (AI @Nat.succ_ne_self (AI @Nat.zero_ne_one (AI @Nat.one_ne_zero (AI @List.length_append.{0} (AI @false_or (AI @or_false (AI @or_true (AI @true_or (AI @List.take_length.{0} (AI @Option.toList_none.{0} @Option.toList_some.{0})))))))))))))))))))))) :=
 ⟨@rng0,@rng1,@rng2,@rng3,@Option.getD_none.{0},@Option.isNone_none.{0},@Option.isNone_some.{0},@Option.isSome_none.{0},@Option.isSome_some.{0},@aJB,@aHl,@beq_self_eq_true.{0},@Nat.succ_ne_self,@Nat.zero_ne_one,@Nat.one_ne_zero,@List.length_append.{0},@false_or,@or_false,@or_true,@true_or,@List.take_length.{0},@Option.toList_none.{0},@Option.toList_some.{0}⟩
theorem WK:type_of% (AI @WK0 (AI @WK1 (AI @WK2 @WK3))) :=
 ⟨@WK0,@WK1,@WK2,@WK3⟩
section
variable {E:Env} {vs:List A} {t u:TypeId} {x y:Operand}
theorem aC5:gH E (.load t x) vs = true:=rfl
theorem aA3 {a b c:Option Operand}:gH E (.slice t x a b c) vs = true:=rfl
theorem aJX:gH E (.indexAddr t x y) vs = true:=rfl
theorem aDA:gH E (.convert t u x) vs = (bR E.P u).isNone:=rfl
theorem ZH {a:Array Operand} {b:Array TypeId}:gH E (.call ⟨.builtin .append,a,b⟩) vs = false:=rfl
theorem aGc {a:Array Operand} {b:Array TypeId}:gH E (.call ⟨.builtin .len,a,b⟩) vs = true:=rfl
theorem aGk {a:Array Operand} {b:Array TypeId} {f:FuncId} {c:List A}:gH E (.call ⟨.value x,a,b⟩) (.clo f c :: vs) = ((E.hint f).mode == 1):=rfl
theorem aKp {a:Array Operand} {b:Array TypeId} {f:FuncId} {c:List D}:gH E (.call ⟨.value x,a,b⟩) (.d (.fn f c) :: vs) = ((E.hint f).mode == 1):=rfl
theorem aGG:gH E (.box t x) vs = false:=rfl
theorem aBM:gH E (.alloc t) vs = false:=rfl
theorem YR:gH E (.assign x) vs = false:=rfl
theorem aCd:gH E (.store t x y) vs = false:=rfl
theorem aKc {n:Nat} {ps:Array (Nat × Operand)}:gH E (.buildSlice t n ps) vs = false:=rfl
theorem aKH:gH E (.makeSlice t x y) vs = false:=rfl
theorem aJ7:gH E (.makeMap t none) vs = false:=rfl
theorem aLb {z:Operand}:gH E (.mapUpdate t x y z) vs = false:=rfl
theorem aO2 {b:Bool}:cV (.lookup t x y b) = false:=rfl
theorem aPq:cV (.makeMap t none) = false:=rfl
theorem aPz {z:Operand}:cV (.mapUpdate t x y z) = false:=rfl
theorem aG6:opds (.alloc t) = []:=rfl
theorem aJL:cV (.load t x) = false:=rfl
theorem aGP:cV (.store t x y) = false:=rfl
theorem aDh:cV (.assign x) = false:=rfl
theorem aGO:cV (.alloc t) = false:=rfl
theorem aMW:cV (.box t x) = false:=rfl
theorem aOJ {n:Nat} {ps:Array (Nat × Operand)}:cV (.buildSlice t n ps) = false:=rfl
theorem aJv:cV (.convert t u x) = false:=rfl
theorem aOP:cV (.makeSlice t x y) = false:=rfl
theorem aHe {a b c:Option Operand}:cV (.slice t x a b c) = false:=rfl
theorem aOT:cV (.indexAddr t x y) = false:=rfl
theorem aJ3 {c:Call}:cV (.call c) = false:=rfl
end
theorem UNx1:type_of% (fun v0 => @jO.eq_3 (Go.Exit.exit v0) (by nofun) (by nofun)):=by intros; rfl
theorem UNx2:type_of% (fun v0 => @jO.eq_3 (Go.Exit.goto v0) (by nofun) (by nofun)):=by intros; rfl
theorem UNx3:type_of% (fun v0 => @jO.eq_3 (Go.Exit.panic v0) (by nofun) (by nofun)):=by intros; rfl
theorem UNx4:type_of% (@jO.eq_3 Go.Exit.outgrown (by nofun) (by nofun)):=(@jO.eq_3 Go.Exit.outgrown (by nofun) (by nofun))
theorem UNx5:type_of% (fun v0 v1 v2 v3 => @outA.eq_2 v0 v1 v2 (A.d v3) (by nofun)):=by intros; rfl
theorem UNx6:type_of% (fun v0 v1 v2 v3 v4 v5 v6 => @outA.eq_2 v0 v1 v2 (A.sl v3 v4 v5 v6) (by nofun)):=by intros; rfl
theorem UNx7:type_of% (fun v0 v1 v2 v3 v4 v5 => @outA.eq_2 v0 v1 v2 (A.ptr v3 v4 v5) (by nofun)):=by intros; rfl
theorem UNx8:type_of% (fun v0 v1 v2 v3 => @outA.eq_2 v0 v1 v2 (A.mp v3) (by nofun)):=by intros; rfl
theorem UNx9:type_of% (fun v0 v1 v2 v3 v4 => @outA.eq_2 v0 v1 v2 (A.clo v3 v4) (by nofun)):=by intros; rfl
theorem aXA:type_of% (fun v0 v1 v2 v3 => @outA.eq_2 v0 v1 v2 (A.tup v3) (by nofun)):=by intros; rfl
theorem aXj:type_of% (fun v0 v1 v2 => @outA.eq_2 v0 v1 v2 A.junk (by nofun)):=by intros; rfl
theorem aW1:type_of% (fun v0 v1 v2 => @outS.eq_2 v0 v1 v2 D.undef (by nofun)):=by intros; rfl
theorem aWS:type_of% (fun v0 v1 v2 v3 v4 => @outS.eq_2 v0 v1 v2 (D.int v3 v4) (by nofun)):=by intros; rfl
theorem aXT:type_of% (fun v0 v1 v2 v3 => @outS.eq_2 v0 v1 v2 (D.bool v3) (by nofun)):=by intros; rfl
theorem aXL:type_of% (fun v0 v1 v2 v3 => @outS.eq_2 v0 v1 v2 (D.str v3) (by nofun)):=by intros; rfl
theorem aWP:type_of% (fun v0 v1 v2 v3 v4 => @outS.eq_2 v0 v1 v2 (D.ivs v3 v4) (by nofun)):=by intros; rfl
theorem aWY:type_of% (fun v0 v1 v2 v3 => @outS.eq_2 v0 v1 v2 (D.iptr v3) (by nofun)):=by intros; rfl
theorem aXq:type_of% (fun v0 v1 v2 => @outS.eq_2 v0 v1 v2 D.nilp (by nofun)):=by intros; rfl
theorem aXV:type_of% (fun v0 v1 v2 v3 v4 => @outS.eq_2 v0 v1 v2 (D.fn v3 v4) (by nofun)):=by intros; rfl
theorem aW5:type_of% (fun v0 v1 v2 => @outS.eq_2 v0 v1 v2 D.nilfn (by nofun)):=by intros; rfl
theorem aW9:type_of% (fun v0 v1 v2 => @outS.eq_2 v0 v1 v2 D.nili (by nofun)):=by intros; rfl
theorem aXO:type_of% (fun v0 v1 v2 => @outS.eq_2 v0 v1 v2 D.nilm (by nofun)):=by intros; rfl
theorem aXB:type_of% (fun v0 v1 v2 v3 v4 => @outS.eq_2 v0 v1 v2 (D.ifc v3 v4) (by nofun)):=by intros; rfl
theorem aXI:type_of% (fun v0 v1 v2 v3 => @outS.eq_7 v0 v1 v2 (A.agg v3) (by nofun) (by nofun) (by nofun) (by nofun) (by nofun) (by nofun)):=by intros; rfl
theorem aXz:type_of% (fun v0 v1 v2 v3 => @outS.eq_7 v0 v1 v2 (A.tup v3) (by nofun) (by nofun) (by nofun) (by nofun) (by nofun) (by nofun)):=by intros; rfl
theorem aXG:type_of% (fun v0 v1 v2 => @outS.eq_7 v0 v1 v2 A.junk (by nofun) (by nofun) (by nofun) (by nofun) (by nofun) (by nofun)):=by intros; rfl
theorem aXb:type_of% (fun v0 v1 => @rT.eq_4 (List.cons v0 v1) (by nofun)):=(fun v0 v1 => @rT.eq_4 (List.cons v0 v1) (by nofun))
theorem aWL:type_of% (fun v0 v1 => @eA.eq_3 (A.d (D.int v0 v1)) (by nofun) (by nofun)):=by intros; rfl
theorem aXS:type_of% (fun v0 => @eA.eq_3 (A.d (D.bool v0)) (by nofun) (by nofun)):=by intros; rfl
theorem aXd:type_of% (fun v0 => @eA.eq_3 (A.d (D.str v0)) (by nofun) (by nofun)):=by intros; rfl
theorem aXE:type_of% (fun v0 v1 => @eA.eq_3 (A.d (D.ivs v0 v1)) (by nofun) (by nofun)):=by intros; rfl
theorem aWx:type_of% (@eA.eq_3 (A.d D.nils) (by nofun) (by nofun)):=(@eA.eq_3 (A.d D.nils) (by nofun) (by nofun))
theorem aWp:type_of% (fun v0 => @eA.eq_3 (A.d (D.iptr v0)) (by nofun) (by nofun)):=by intros; rfl
theorem aWG:type_of% (@eA.eq_3 (A.d D.nilp) (by nofun) (by nofun)):=(@eA.eq_3 (A.d D.nilp) (by nofun) (by nofun))
theorem aW0:type_of% (fun v0 v1 => @eA.eq_3 (A.d (D.fn v0 v1)) (by nofun) (by nofun)):=by intros; rfl
theorem aWD:type_of% (@eA.eq_3 (A.d D.nilfn) (by nofun) (by nofun)):=(@eA.eq_3 (A.d D.nilfn) (by nofun) (by nofun))
theorem aW8:type_of% (@eA.eq_3 (A.d D.nili) (by nofun) (by nofun)):=(@eA.eq_3 (A.d D.nili) (by nofun) (by nofun))
theorem aXv:type_of% (@eA.eq_3 (A.d D.nilm) (by nofun) (by nofun)):=(@eA.eq_3 (A.d D.nilm) (by nofun) (by nofun))
theorem aWT:type_of% (fun v0 v1 => @eA.eq_3 (A.d (D.ifc v0 v1)) (by nofun) (by nofun)):=by intros; rfl
theorem aWW:type_of% (fun v0 v1 v2 v3 => @eA.eq_3 (A.sl v0 v1 v2 v3) (by nofun) (by nofun)):=by intros; rfl
theorem aXY:type_of% (fun v0 v1 v2 => @eA.eq_3 (A.ptr v0 v1 v2) (by nofun) (by nofun)):=by intros; rfl
theorem aW6:type_of% (fun v0 => @eA.eq_3 (A.mp v0) (by nofun) (by nofun)):=by intros; rfl
theorem aWU:type_of% (fun v0 v1 => @eA.eq_3 (A.clo v0 v1) (by nofun) (by nofun)):=by intros; rfl
theorem aXi:type_of% (fun v0 => @eA.eq_3 (A.agg v0) (by nofun) (by nofun)):=by intros; rfl
theorem aWs:type_of% (fun v0 => @eA.eq_3 (A.tup v0) (by nofun) (by nofun)):=by intros; rfl
theorem aWq:type_of% (fun v0 => @tidy.eq_3 List.nil v0 (by nofun) (by nofun)):=by intros; rfl
theorem aXl:type_of% (fun v0 => @tidy.eq_3 (List.cons Bool.false v0) List.nil (by nofun) (by nofun)):=by intros; rfl
theorem aWM:type_of% (fun v0 => @tidy.eq_3 (List.cons Bool.true v0) List.nil (by nofun) (by nofun)):=by intros; rfl
theorem aXQ:type_of% (fun v0 v1 v2 v3 v4 => @dF.eq_2 v0 v1 v2 v3 (A.d v4) (by nofun)):=by intros; rfl
theorem aW7:type_of% (fun v0 v1 v2 v3 v4 v5 v6 v7 => @dF.eq_2 v0 v1 v2 v3 (A.sl v4 v5 v6 v7) (by nofun)):=by intros; rfl
theorem aXU:type_of% (fun v0 v1 v2 v3 v4 v5 v6 => @dF.eq_2 v0 v1 v2 v3 (A.ptr v4 v5 v6) (by nofun)):=by intros; rfl
theorem aXm:type_of% (fun v0 v1 v2 v3 v4 v5 => @dF.eq_2 v0 v1 v2 v3 (A.clo v4 v5) (by nofun)):=by intros; rfl
theorem aXx:type_of% (fun v0 v1 v2 v3 v4 => @dF.eq_2 v0 v1 v2 v3 (A.agg v4) (by nofun)):=by intros; rfl
theorem aWR:type_of% (fun v0 v1 v2 v3 v4 => @dF.eq_2 v0 v1 v2 v3 (A.tup v4) (by nofun)):=by intros; rfl
theorem aXH:type_of% (fun v0 v1 v2 v3 => @dF.eq_2 v0 v1 v2 v3 A.junk (by nofun)):=by intros; rfl
theorem aX0:type_of% (fun v0 v1 v2 v3 v4 => @nG.eq_2 v0 v1 v2 (A.d v4) v3 (by nofun)):=by intros; rfl
theorem aXD:type_of% (fun v0 v1 v2 v3 v4 v5 v6 => @nG.eq_2 v0 v1 v2 (A.ptr v4 v5 v6) v3 (by nofun)):=by intros; rfl
theorem aXw:type_of% (fun v0 v1 v2 v3 v4 => @nG.eq_2 v0 v1 v2 (A.mp v4) v3 (by nofun)):=by intros; rfl
theorem aXp:type_of% (fun v0 v1 v2 v3 v4 v5 => @nG.eq_2 v0 v1 v2 (A.clo v4 v5) v3 (by nofun)):=by intros; rfl
theorem aW4:type_of% (fun v0 v1 v2 v3 v4 => @nG.eq_2 v0 v1 v2 (A.agg v4) v3 (by nofun)):=by intros; rfl
theorem aXt:type_of% (fun v0 v1 v2 v3 v4 => @nG.eq_2 v0 v1 v2 (A.tup v4) v3 (by nofun)):=by intros; rfl
theorem aWX:type_of% (fun v0 v1 v2 v3 => @nG.eq_2 v0 v1 v2 A.junk v3 (by nofun)):=by intros; rfl
theorem aXu:type_of% (fun v0 v1 => @IX.eq_2 v0 (A.d v1) (by nofun)):=by intros; rfl
theorem aWz:type_of% (fun v0 v1 v2 v3 => @IX.eq_2 v0 (A.ptr v1 v2 v3) (by nofun)):=by intros; rfl
theorem aXa:type_of% (fun v0 v1 => @IX.eq_2 v0 (A.mp v1) (by nofun)):=by intros; rfl
theorem aXg:type_of% (fun v0 v1 v2 => @IX.eq_2 v0 (A.clo v1 v2) (by nofun)):=by intros; rfl
theorem aXe:type_of% (fun v0 v1 => @IX.eq_2 v0 (A.agg v1) (by nofun)):=by intros; rfl
theorem aXf:type_of% (fun v0 v1 => @IX.eq_2 v0 (A.tup v1) (by nofun)):=by intros; rfl
theorem aXR:type_of% (fun v0 => @IX.eq_2 v0 A.junk (by nofun)):=by intros; rfl
theorem aWC:type_of% (fun v0 v1 v2 => @nH.eq_2 v0 v1 (A.d v2) (by nofun)):=by intros; rfl
theorem aWw:type_of% (fun v0 v1 v2 v3 v4 => @nH.eq_2 v0 v1 (A.ptr v2 v3 v4) (by nofun)):=by intros; rfl
theorem aWH:type_of% (fun v0 v1 v2 => @nH.eq_2 v0 v1 (A.mp v2) (by nofun)):=by intros; rfl
theorem aWJ:type_of% (fun v0 v1 v2 v3 => @nH.eq_2 v0 v1 (A.clo v2 v3) (by nofun)):=by intros; rfl
theorem aXr:type_of% (fun v0 v1 v2 => @nH.eq_2 v0 v1 (A.agg v2) (by nofun)):=by intros; rfl
theorem aWn:type_of% (fun v0 v1 v2 => @nH.eq_2 v0 v1 (A.tup v2) (by nofun)):=by intros; rfl
theorem aXC:type_of% (fun v0 v1 => @nH.eq_2 v0 v1 A.junk (by nofun)):=by intros; rfl
theorem aWt:type_of% (@qC.eq_2 Option.none (by nofun)):=(@qC.eq_2 Option.none (by nofun))
theorem aWy:type_of% (fun v0 v1 => @qC.eq_2 (Option.some (Prod.mk (A.d v1) v0)) (by nofun)):=by intros; rfl
theorem aWF:type_of% (fun v0 v1 v2 v3 => @qC.eq_2 (Option.some (Prod.mk (A.ptr v1 v2 v3) v0)) (by nofun)):=by intros; rfl
theorem aXo:type_of% (fun v0 v1 => @qC.eq_2 (Option.some (Prod.mk (A.mp v1) v0)) (by nofun)):=by intros; rfl
theorem aXk:type_of% (fun v0 v1 v2 => @qC.eq_2 (Option.some (Prod.mk (A.clo v1 v2) v0)) (by nofun)):=by intros; rfl
theorem aXM:type_of% (fun v0 v1 => @qC.eq_2 (Option.some (Prod.mk (A.agg v1) v0)) (by nofun)):=by intros; rfl
theorem aW2:type_of% (fun v0 v1 => @qC.eq_2 (Option.some (Prod.mk (A.tup v1) v0)) (by nofun)):=by intros; rfl
theorem aWV:type_of% (fun v0 => @qC.eq_2 (Option.some (Prod.mk A.junk v0)) (by nofun)):=by intros; rfl
theorem aXn:type_of% (fun v0 v1 v2 => @frz.eq_5 v0 (A.d v2) v1 (by nofun) (by nofun) (by nofun)):=by intros; rfl
theorem aXF:type_of% (fun v0 v1 v2 => @frz.eq_5 v0 (A.mp v2) v1 (by nofun) (by nofun) (by nofun)):=by intros; rfl
theorem aWN:type_of% (fun v0 v1 v2 => @frz.eq_5 v0 (A.agg v2) v1 (by nofun) (by nofun) (by nofun)):=by intros; rfl
theorem aW3:type_of% (fun v0 v1 v2 => @frz.eq_5 v0 (A.tup v2) v1 (by nofun) (by nofun) (by nofun)):=by intros; rfl
theorem aWA:type_of% (fun v0 v1 => @frz.eq_5 v0 A.junk v1 (by nofun) (by nofun) (by nofun)):=by intros; rfl
theorem aXs:type_of% (fun v0 v1 v2 v3 => @frz0.eq_3 v0 (A.ptr v1 v2 v3) (by nofun) (by nofun)):=by intros; rfl
theorem aWB:type_of% (fun v0 v1 => @frz0.eq_3 v0 (A.mp v1) (by nofun) (by nofun)):=by intros; rfl
theorem aWo:type_of% (fun v0 v1 v2 => @frz0.eq_3 v0 (A.clo v1 v2) (by nofun) (by nofun)):=by intros; rfl
theorem aWk:type_of% (fun v0 v1 => @frz0.eq_3 v0 (A.agg v1) (by nofun) (by nofun)):=by intros; rfl
theorem aWr:type_of% (fun v0 v1 => @frz0.eq_3 v0 (A.tup v1) (by nofun) (by nofun)):=by intros; rfl
theorem aWu:type_of% (fun v0 => @frz0.eq_3 v0 A.junk (by nofun) (by nofun)):=by intros; rfl
theorem aXh:type_of% (fun v0 => @bA.eq_2 (A.d v0) (by nofun)):=by intros; rfl
theorem aXy:type_of% (fun v0 v1 v2 v3 => @bA.eq_2 (A.sl v0 v1 v2 v3) (by nofun)):=by intros; rfl
theorem aWl:type_of% (fun v0 v1 v2 => @bA.eq_2 (A.ptr v0 v1 v2) (by nofun)):=by intros; rfl
theorem aWQ:type_of% (fun v0 => @bA.eq_2 (A.mp v0) (by nofun)):=by intros; rfl
theorem aSf:type_of% (fun v0 v1 => @bA.eq_2 (A.clo v0 v1) (by nofun)):=by intros; rfl
theorem aSJ:type_of% (fun v0 => @bA.eq_2 (A.tup v0) (by nofun)):=by intros; rfl
theorem aSw:type_of% (@bA.eq_2 A.junk (by nofun)):=(@bA.eq_2 A.junk (by nofun))
theorem aSN:type_of% (fun v0 v1 => @c9.eq_5 (A.d (D.int v0 v1)) (by nofun) (by nofun) (by nofun) (by nofun)):=by intros; rfl
theorem aUe:type_of% (fun v0 => @c9.eq_5 (A.d (D.bool v0)) (by nofun) (by nofun) (by nofun) (by nofun)):=by intros; rfl
theorem aSh:type_of% (fun v0 => @c9.eq_5 (A.d (D.str v0)) (by nofun) (by nofun) (by nofun) (by nofun)):=by intros; rfl
theorem aTM:type_of% (fun v0 v1 => @c9.eq_5 (A.d (D.ivs v0 v1)) (by nofun) (by nofun) (by nofun) (by nofun)):=by intros; rfl
theorem aSj:type_of% (@c9.eq_5 (A.d D.nils) (by nofun) (by nofun) (by nofun) (by nofun)):=(@c9.eq_5 (A.d D.nils) (by nofun) (by nofun) (by nofun) (by nofun))
theorem aTU:type_of% (fun v0 => @c9.eq_5 (A.d (D.iptr v0)) (by nofun) (by nofun) (by nofun) (by nofun)):=by intros; rfl
theorem aTb:type_of% (@c9.eq_5 (A.d D.nilp) (by nofun) (by nofun) (by nofun) (by nofun)):=(@c9.eq_5 (A.d D.nilp) (by nofun) (by nofun) (by nofun) (by nofun))
theorem aRt:type_of% (fun v0 v1 => @c9.eq_5 (A.d (D.fn v0 v1)) (by nofun) (by nofun) (by nofun) (by nofun)):=by intros; rfl
theorem aUW:type_of% (@c9.eq_5 (A.d D.nilfn) (by nofun) (by nofun) (by nofun) (by nofun)):=(@c9.eq_5 (A.d D.nilfn) (by nofun) (by nofun) (by nofun) (by nofun))
theorem aRb:type_of% (@c9.eq_5 (A.d D.nili) (by nofun) (by nofun) (by nofun) (by nofun)):=(@c9.eq_5 (A.d D.nili) (by nofun) (by nofun) (by nofun) (by nofun))
theorem aQ9:type_of% (@c9.eq_5 (A.d D.nilm) (by nofun) (by nofun) (by nofun) (by nofun)):=(@c9.eq_5 (A.d D.nilm) (by nofun) (by nofun) (by nofun) (by nofun))
theorem aTn:type_of% (fun v0 v1 => @c9.eq_5 (A.d (D.ifc v0 v1)) (by nofun) (by nofun) (by nofun) (by nofun)):=by intros; rfl
theorem aT8:type_of% (fun v0 v1 v2 v3 => @c9.eq_5 (A.sl v0 v1 v2 v3) (by nofun) (by nofun) (by nofun) (by nofun)):=by intros; rfl
theorem aUG:type_of% (fun v0 v1 v2 => @c9.eq_5 (A.ptr v0 v1 v2) (by nofun) (by nofun) (by nofun) (by nofun)):=by intros; rfl
theorem aTP:type_of% (fun v0 => @c9.eq_5 (A.mp v0) (by nofun) (by nofun) (by nofun) (by nofun)):=by intros; rfl
theorem aUl:type_of% (fun v0 v1 => @c9.eq_5 (A.clo v0 v1) (by nofun) (by nofun) (by nofun) (by nofun)):=by intros; rfl
theorem aT9:type_of% (fun v0 => @oD.eq_2 (A.d v0) (by nofun)):=by intros; rfl
theorem aRS:type_of% (fun v0 v1 v2 v3 => @oD.eq_2 (A.sl v0 v1 v2 v3) (by nofun)):=by intros; rfl
theorem aRF:type_of% (fun v0 v1 v2 => @oD.eq_2 (A.ptr v0 v1 v2) (by nofun)):=by intros; rfl
theorem aSs:type_of% (fun v0 => @oD.eq_2 (A.mp v0) (by nofun)):=by intros; rfl
theorem aS4:type_of% (fun v0 v1 => @oD.eq_2 (A.clo v0 v1) (by nofun)):=by intros; rfl
theorem aRe:type_of% (fun v0 => @oD.eq_2 (A.agg v0) (by nofun)):=by intros; rfl
theorem aQ2:type_of% (fun v0 => @oD.eq_2 (A.tup v0) (by nofun)):=by intros; rfl
theorem aTl:type_of% (fun v0 v1 v2 v3 => @jG.eq_4 (O.arr v1 v2 v3) v0 (by nofun) (by nofun)):=by intros; rfl
theorem aTT:type_of% (fun v0 v1 v2 v3 => @jG.eq_4 (O.ice v1 v2 v3) v0 (by nofun) (by nofun)):=by intros; rfl
theorem aTJ:type_of% (fun v0 v1 => @jG.eq_4 (O.log v1) v0 (by nofun) (by nofun)):=by intros; rfl
theorem aSp:type_of% (fun v0 v1 => @jG.eq_4 (O.mp v1) v0 (by nofun) (by nofun)):=by intros; rfl
theorem aRH:type_of% (fun v0 => @jG.eq_4 O.void v0 (by nofun) (by nofun)):=by intros; rfl
theorem aRA:type_of% (@tupA.eq_2 List.nil (by nofun)):=(@tupA.eq_2 List.nil (by nofun))
theorem aUs:type_of% (fun v0 v1 v2 => @tupA.eq_2 (List.cons v0 (List.cons v1 v2)) (by nofun)):=by intros; rfl
theorem aTN:type_of% (fun v0 => @opds.eq_26 (Go.Op.alloc v0) (by nofun) (by nofun) (by nofun) (by nofun) (by nofun) (by nofun) (by nofun) (by nofun) (by nofun) (by nofun) (by nofun) (by nofun) (by nofun) (by nofun) (by nofun) (by nofun) (by nofun) (by nofun) (by nofun) (by nofun) (by nofun) (by nofun) (by nofun) (by nofun) (by nofun)):=by intros; rfl
theorem aRu:type_of% (fun v0 => @opds.eq_26 (Go.Op.ready v0) (by nofun) (by nofun) (by nofun) (by nofun) (by nofun) (by nofun) (by nofun) (by nofun) (by nofun) (by nofun) (by nofun) (by nofun) (by nofun) (by nofun) (by nofun) (by nofun) (by nofun) (by nofun) (by nofun) (by nofun) (by nofun) (by nofun) (by nofun) (by nofun) (by nofun)):=by intros; rfl
theorem aUy:type_of% (fun v0 => @opds.eq_26 (Go.Op.waits v0) (by nofun) (by nofun) (by nofun) (by nofun) (by nofun) (by nofun) (by nofun) (by nofun) (by nofun) (by nofun) (by nofun) (by nofun) (by nofun) (by nofun) (by nofun) (by nofun) (by nofun) (by nofun) (by nofun) (by nofun) (by nofun) (by nofun) (by nofun) (by nofun) (by nofun)):=by intros; rfl
theorem aSl:type_of% (fun v0 v1 => @opds.eq_26 (Go.Op.sliceToArrayPointer v0 v1) (by nofun) (by nofun) (by nofun) (by nofun) (by nofun) (by nofun) (by nofun) (by nofun) (by nofun) (by nofun) (by nofun) (by nofun) (by nofun) (by nofun) (by nofun) (by nofun) (by nofun) (by nofun) (by nofun) (by nofun) (by nofun) (by nofun) (by nofun) (by nofun) (by nofun)):=by intros; rfl
theorem aR1:type_of% (fun v0 v1 => @opds.eq_26 (Go.Op.makeInterface v0 v1) (by nofun) (by nofun) (by nofun) (by nofun) (by nofun) (by nofun) (by nofun) (by nofun) (by nofun) (by nofun) (by nofun) (by nofun) (by nofun) (by nofun) (by nofun) (by nofun) (by nofun) (by nofun) (by nofun) (by nofun) (by nofun) (by nofun) (by nofun) (by nofun) (by nofun)):=by intros; rfl
theorem aTZ:type_of% (fun v0 v1 => @opds.eq_26 (Go.Op.makeChan v0 v1) (by nofun) (by nofun) (by nofun) (by nofun) (by nofun) (by nofun) (by nofun) (by nofun) (by nofun) (by nofun) (by nofun) (by nofun) (by nofun) (by nofun) (by nofun) (by nofun) (by nofun) (by nofun) (by nofun) (by nofun) (by nofun) (by nofun) (by nofun) (by nofun) (by nofun)):=by intros; rfl
theorem aR0:type_of% (fun v0 v1 v2 => @opds.eq_26 (Go.Op.mapEntry v0 v1 v2) (by nofun) (by nofun) (by nofun) (by nofun) (by nofun) (by nofun) (by nofun) (by nofun) (by nofun) (by nofun) (by nofun) (by nofun) (by nofun) (by nofun) (by nofun) (by nofun) (by nofun) (by nofun) (by nofun) (by nofun) (by nofun) (by nofun) (by nofun) (by nofun) (by nofun)):=by intros; rfl
theorem aTK:type_of% (fun v0 v1 v2 v3 => @opds.eq_26 (Go.Op.entryStore v0 v1 v2 v3) (by nofun) (by nofun) (by nofun) (by nofun) (by nofun) (by nofun) (by nofun) (by nofun) (by nofun) (by nofun) (by nofun) (by nofun) (by nofun) (by nofun) (by nofun) (by nofun) (by nofun) (by nofun) (by nofun) (by nofun) (by nofun) (by nofun) (by nofun) (by nofun) (by nofun)):=by intros; rfl
theorem aTv:type_of% (fun v0 v1 => @opds.eq_26 (Go.Op.range v0 v1) (by nofun) (by nofun) (by nofun) (by nofun) (by nofun) (by nofun) (by nofun) (by nofun) (by nofun) (by nofun) (by nofun) (by nofun) (by nofun) (by nofun) (by nofun) (by nofun) (by nofun) (by nofun) (by nofun) (by nofun) (by nofun) (by nofun) (by nofun) (by nofun) (by nofun)):=by intros; rfl
theorem aTh:type_of% (fun v0 v1 => @opds.eq_26 (Go.Op.next v0 v1) (by nofun) (by nofun) (by nofun) (by nofun) (by nofun) (by nofun) (by nofun) (by nofun) (by nofun) (by nofun) (by nofun) (by nofun) (by nofun) (by nofun) (by nofun) (by nofun) (by nofun) (by nofun) (by nofun) (by nofun) (by nofun) (by nofun) (by nofun) (by nofun) (by nofun)):=by intros; rfl
theorem aTX:type_of% (fun v0 => @opds.eq_26 (Go.Op.entry v0) (by nofun) (by nofun) (by nofun) (by nofun) (by nofun) (by nofun) (by nofun) (by nofun) (by nofun) (by nofun) (by nofun) (by nofun) (by nofun) (by nofun) (by nofun) (by nofun) (by nofun) (by nofun) (by nofun) (by nofun) (by nofun) (by nofun) (by nofun) (by nofun) (by nofun)):=by intros; rfl
theorem aSA:type_of% (fun v0 v1 v2 v3 => @opds.eq_26 (Go.Op.typeAssert v0 v1 v2 v3) (by nofun) (by nofun) (by nofun) (by nofun) (by nofun) (by nofun) (by nofun) (by nofun) (by nofun) (by nofun) (by nofun) (by nofun) (by nofun) (by nofun) (by nofun) (by nofun) (by nofun) (by nofun) (by nofun) (by nofun) (by nofun) (by nofun) (by nofun) (by nofun) (by nofun)):=by intros; rfl
theorem aS8:type_of% (fun v0 => @opds.eq_26 (Go.Op.go v0) (by nofun) (by nofun) (by nofun) (by nofun) (by nofun) (by nofun) (by nofun) (by nofun) (by nofun) (by nofun) (by nofun) (by nofun) (by nofun) (by nofun) (by nofun) (by nofun) (by nofun) (by nofun) (by nofun) (by nofun) (by nofun) (by nofun) (by nofun) (by nofun) (by nofun)):=by intros; rfl
theorem aSV:type_of% (fun v0 => @opds.eq_26 (Go.Op.defer v0) (by nofun) (by nofun) (by nofun) (by nofun) (by nofun) (by nofun) (by nofun) (by nofun) (by nofun) (by nofun) (by nofun) (by nofun) (by nofun) (by nofun) (by nofun) (by nofun) (by nofun) (by nofun) (by nofun) (by nofun) (by nofun) (by nofun) (by nofun) (by nofun) (by nofun)):=by intros; rfl
theorem aSi:type_of% (fun v0 => @opds.eq_26 (Go.Op.panic v0) (by nofun) (by nofun) (by nofun) (by nofun) (by nofun) (by nofun) (by nofun) (by nofun) (by nofun) (by nofun) (by nofun) (by nofun) (by nofun) (by nofun) (by nofun) (by nofun) (by nofun) (by nofun) (by nofun) (by nofun) (by nofun) (by nofun) (by nofun) (by nofun) (by nofun)):=by intros; rfl
theorem aU0:type_of% (fun v0 v1 => @opds.eq_26 (Go.Op.send v0 v1) (by nofun) (by nofun) (by nofun) (by nofun) (by nofun) (by nofun) (by nofun) (by nofun) (by nofun) (by nofun) (by nofun) (by nofun) (by nofun) (by nofun) (by nofun) (by nofun) (by nofun) (by nofun) (by nofun) (by nofun) (by nofun) (by nofun) (by nofun) (by nofun) (by nofun)):=by intros; rfl
theorem aRp:type_of% (fun v0 v1 v2 => @opds.eq_26 (Go.Op.recv v0 v1 v2) (by nofun) (by nofun) (by nofun) (by nofun) (by nofun) (by nofun) (by nofun) (by nofun) (by nofun) (by nofun) (by nofun) (by nofun) (by nofun) (by nofun) (by nofun) (by nofun) (by nofun) (by nofun) (by nofun) (by nofun) (by nofun) (by nofun) (by nofun) (by nofun) (by nofun)):=by intros; rfl
theorem aSr:type_of% (fun v0 v1 => @opds.eq_26 (Go.Op.select v0 v1) (by nofun) (by nofun) (by nofun) (by nofun) (by nofun) (by nofun) (by nofun) (by nofun) (by nofun) (by nofun) (by nofun) (by nofun) (by nofun) (by nofun) (by nofun) (by nofun) (by nofun) (by nofun) (by nofun) (by nofun) (by nofun) (by nofun) (by nofun) (by nofun) (by nofun)):=by intros; rfl
theorem aSa:type_of% (fun v0 => @IV.eq_2 List.nil v0 (by nofun)):=by intros; rfl
theorem aRV:type_of% (fun v0 v1 => @IV.eq_2 (List.cons v1 List.nil) v0 (by nofun)):=by intros; rfl
theorem aQ1:type_of% (fun v0 v1 v2 => @IV.eq_2 (List.cons v1 (List.cons v2 List.nil)) v0 (by nofun)):=by intros; rfl
theorem aT5:type_of% (fun v0 v1 v2 v3 v4 v5 => @IV.eq_2 (List.cons v1 (List.cons v2 (List.cons v3 (List.cons v4 v5)))) v0 (by nofun)):=by intros; rfl
theorem aRI:type_of% (fun v0 v1 v2 v3 v4 => @dR.eq_2 v0 v1 (Go.Operand.tmp v4) v2 v3 (by nofun)):=by intros; rfl
theorem aUK:type_of% (fun v0 v1 v2 v3 => @dR.eq_2 v0 v1 (Go.Operand.const v3) v2 (A.d D.undef) (by nofun)):=by intros; rfl
theorem aSe:type_of% (fun v0 v1 v2 v3 v4 v5 => @dR.eq_2 v0 v1 (Go.Operand.const v3) v2 (A.d (D.int v4 v5)) (by nofun)):=by intros; rfl
theorem aUz:type_of% (fun v0 v1 v2 v3 v4 => @dR.eq_2 v0 v1 (Go.Operand.const v3) v2 (A.d (D.bool v4)) (by nofun)):=by intros; rfl
theorem aTS:type_of% (fun v0 v1 v2 v3 v4 => @dR.eq_2 v0 v1 (Go.Operand.const v3) v2 (A.d (D.str v4)) (by nofun)):=by intros; rfl
theorem aS5:type_of% (fun v0 v1 v2 v3 v4 v5 => @dR.eq_2 v0 v1 (Go.Operand.const v3) v2 (A.d (D.ivs v4 v5)) (by nofun)):=by intros; rfl
theorem aSq:type_of% (fun v0 v1 v2 v3 v4 => @dR.eq_2 v0 v1 (Go.Operand.const v3) v2 (A.d (D.iptr v4)) (by nofun)):=by intros; rfl
theorem aQ5:type_of% (fun v0 v1 v2 v3 => @dR.eq_2 v0 v1 (Go.Operand.const v3) v2 (A.d D.nilp) (by nofun)):=by intros; rfl
theorem aTx:type_of% (fun v0 v1 v2 v3 v4 v5 => @dR.eq_2 v0 v1 (Go.Operand.const v3) v2 (A.d (D.fn v4 v5)) (by nofun)):=by intros; rfl
theorem aST:type_of% (fun v0 v1 v2 v3 => @dR.eq_2 v0 v1 (Go.Operand.const v3) v2 (A.d D.nilfn) (by nofun)):=by intros; rfl
theorem aUj:type_of% (fun v0 v1 v2 v3 => @dR.eq_2 v0 v1 (Go.Operand.const v3) v2 (A.d D.nili) (by nofun)):=by intros; rfl
theorem aUX:type_of% (fun v0 v1 v2 v3 => @dR.eq_2 v0 v1 (Go.Operand.const v3) v2 (A.d D.nilm) (by nofun)):=by intros; rfl
theorem aRQ:type_of% (fun v0 v1 v2 v3 v4 v5 => @dR.eq_2 v0 v1 (Go.Operand.const v3) v2 (A.d (D.ifc v4 v5)) (by nofun)):=by intros; rfl
theorem aRm:type_of% (fun v0 v1 v2 v3 v4 v5 v6 v7 => @dR.eq_2 v0 v1 (Go.Operand.const v3) v2 (A.sl v4 v5 v6 v7) (by nofun)):=by intros; rfl
theorem aT7:type_of% (fun v0 v1 v2 v3 v4 v5 v6 => @dR.eq_2 v0 v1 (Go.Operand.const v3) v2 (A.ptr v4 v5 v6) (by nofun)):=by intros; rfl
theorem aUL:type_of% (fun v0 v1 v2 v3 v4 => @dR.eq_2 v0 v1 (Go.Operand.const v3) v2 (A.mp v4) (by nofun)):=by intros; rfl
theorem aUY:type_of% (fun v0 v1 v2 v3 v4 v5 => @dR.eq_2 v0 v1 (Go.Operand.const v3) v2 (A.clo v4 v5) (by nofun)):=by intros; rfl
theorem aUS:type_of% (fun v0 v1 v2 v3 v4 => @dR.eq_2 v0 v1 (Go.Operand.const v3) v2 (A.agg v4) (by nofun)):=by intros; rfl
theorem aTa:type_of% (fun v0 v1 v2 v3 v4 => @dR.eq_2 v0 v1 (Go.Operand.const v3) v2 (A.tup v4) (by nofun)):=by intros; rfl
theorem aRx:type_of% (fun v0 v1 v2 v3 => @dR.eq_2 v0 v1 (Go.Operand.const v3) v2 A.junk (by nofun)):=by intros; rfl
theorem aUr:type_of% (fun v0 v1 v2 v3 v4 => @dR.eq_2 v0 v1 (Go.Operand.global v4) v2 v3 (by nofun)):=by intros; rfl
theorem aSo:type_of% (fun v0 v1 v2 v3 v4 => @dR.eq_2 v0 v1 (Go.Operand.func v4) v2 v3 (by nofun)):=by intros; rfl
theorem aSb:type_of% (fun v0 => @bZ.eq_2 (Go.Op.move v0) (by nofun)):=by intros; rfl
theorem aQ6:type_of% (fun v0 => @bZ.eq_2 (Go.Op.assign v0) (by nofun)):=by intros; rfl
theorem aT6:type_of% (fun v0 v1 v2 => @bZ.eq_2 (Go.Op.pick v0 v1 v2) (by nofun)):=by intros; rfl
theorem aRg:type_of% (fun v0 => @bZ.eq_2 (Go.Op.alloc v0) (by nofun)):=by intros; rfl
theorem aRy:type_of% (fun v0 v1 => @bZ.eq_2 (Go.Op.box v0 v1) (by nofun)):=by intros; rfl
theorem aRE:type_of% (fun v0 v1 => @bZ.eq_2 (Go.Op.build v0 v1) (by nofun)):=by intros; rfl
theorem aSu:type_of% (fun v0 v1 v2 => @bZ.eq_2 (Go.Op.buildSlice v0 v1 v2) (by nofun)):=by intros; rfl
theorem aSC:type_of% (fun v0 v1 v2 v3 => @bZ.eq_2 (Go.Op.insert v0 v1 v2 v3) (by nofun)):=by intros; rfl
theorem aU1:type_of% (fun v0 v1 => @bZ.eq_2 (Go.Op.load v0 v1) (by nofun)):=by intros; rfl
theorem aR8:type_of% (fun v0 v1 v2 => @bZ.eq_2 (Go.Op.store v0 v1 v2) (by nofun)):=by intros; rfl
theorem aTO:type_of% (fun v0 => @bZ.eq_2 (Go.Op.ready v0) (by nofun)):=by intros; rfl
theorem aUb:type_of% (fun v0 => @bZ.eq_2 (Go.Op.waits v0) (by nofun)):=by intros; rfl
theorem aUk:type_of% (fun v0 => @bZ.eq_2 (Go.Op.nilCheck v0) (by nofun)):=by intros; rfl
theorem aUq:type_of% (fun v0 v1 v2 v3 v4 => @bZ.eq_2 (Go.Op.binOp v0 v1 v2 v3 v4) (by nofun)):=by intros; rfl
theorem aR2:type_of% (fun v0 v1 v2 => @bZ.eq_2 (Go.Op.unOp v0 v1 v2) (by nofun)):=by intros; rfl
theorem aTQ:type_of% (fun v0 v1 v2 => @bZ.eq_2 (Go.Op.convert v0 v1 v2) (by nofun)):=by intros; rfl
theorem aRX:type_of% (fun v0 v1 => @bZ.eq_2 (Go.Op.sliceToArrayPointer v0 v1) (by nofun)):=by intros; rfl
theorem aR4:type_of% (fun v0 v1 => @bZ.eq_2 (Go.Op.makeInterface v0 v1) (by nofun)):=by intros; rfl
theorem aTf:type_of% (fun v0 v1 v2 => @bZ.eq_2 (Go.Op.makeFunc v0 v1 v2) (by nofun)):=by intros; rfl
theorem aRr:type_of% (fun v0 v1 => @bZ.eq_2 (Go.Op.makeMap v0 v1) (by nofun)):=by intros; rfl
theorem aTE:type_of% (fun v0 v1 => @bZ.eq_2 (Go.Op.makeChan v0 v1) (by nofun)):=by intros; rfl
theorem aRv:type_of% (fun v0 v1 v2 => @bZ.eq_2 (Go.Op.makeSlice v0 v1 v2) (by nofun)):=by intros; rfl
theorem aRO:type_of% (fun v0 v1 v2 v3 v4 => @bZ.eq_2 (Go.Op.slice v0 v1 v2 v3 v4) (by nofun)):=by intros; rfl
theorem aRk:type_of% (fun v0 v1 v2 => @bZ.eq_2 (Go.Op.fieldAddr v0 v1 v2) (by nofun)):=by intros; rfl
theorem aTD:type_of% (fun v0 v1 v2 => @bZ.eq_2 (Go.Op.field v0 v1 v2) (by nofun)):=by intros; rfl
theorem aTs:type_of% (fun v0 v1 v2 => @bZ.eq_2 (Go.Op.indexAddr v0 v1 v2) (by nofun)):=by intros; rfl
theorem aUt:type_of% (fun v0 v1 v2 => @bZ.eq_2 (Go.Op.index v0 v1 v2) (by nofun)):=by intros; rfl
theorem aUF:type_of% (fun v0 v1 v2 v3 => @bZ.eq_2 (Go.Op.lookup v0 v1 v2 v3) (by nofun)):=by intros; rfl
theorem aT2:type_of% (fun v0 v1 v2 v3 => @bZ.eq_2 (Go.Op.mapUpdate v0 v1 v2 v3) (by nofun)):=by intros; rfl
theorem aUi:type_of% (fun v0 v1 v2 => @bZ.eq_2 (Go.Op.mapEntry v0 v1 v2) (by nofun)):=by intros; rfl
theorem aTH:type_of% (fun v0 v1 v2 v3 => @bZ.eq_2 (Go.Op.entryStore v0 v1 v2 v3) (by nofun)):=by intros; rfl
theorem aRl:type_of% (fun v0 v1 => @bZ.eq_2 (Go.Op.range v0 v1) (by nofun)):=by intros; rfl
theorem aTL:type_of% (fun v0 v1 => @bZ.eq_2 (Go.Op.next v0 v1) (by nofun)):=by intros; rfl
theorem aTg:type_of% (fun v0 => @bZ.eq_2 (Go.Op.entry v0) (by nofun)):=by intros; rfl
theorem aTI:type_of% (fun v0 v1 v2 v3 => @bZ.eq_2 (Go.Op.typeAssert v0 v1 v2 v3) (by nofun)):=by intros; rfl
theorem aSn:type_of% (fun v0 v1 => @bZ.eq_2 (Go.Op.extract v0 v1) (by nofun)):=by intros; rfl
theorem aUm:type_of% (fun v0 => @bZ.eq_2 (Go.Op.go v0) (by nofun)):=by intros; rfl
theorem aRf:type_of% (fun v0 => @bZ.eq_2 (Go.Op.defer v0) (by nofun)):=by intros; rfl
theorem aRJ:type_of% (fun v0 => @bZ.eq_2 (Go.Op.panic v0) (by nofun)):=by intros; rfl
theorem aQZ:type_of% (fun v0 v1 => @bZ.eq_2 (Go.Op.send v0 v1) (by nofun)):=by intros; rfl
theorem aTp:type_of% (fun v0 v1 v2 => @bZ.eq_2 (Go.Op.recv v0 v1 v2) (by nofun)):=by intros; rfl
theorem aSt:type_of% (fun v0 v1 => @bZ.eq_2 (Go.Op.select v0 v1) (by nofun)):=by intros; rfl
theorem aUO:type_of% (fun v0 v1 => @bE.eq_3 v0 (A.d D.undef) v1 (by nofun)):=by intros; rfl
theorem aQ3:type_of% (fun v0 v1 v2 v3 => @bE.eq_3 v0 (A.d (D.int v2 v3)) v1 (by nofun)):=by intros; rfl
theorem aUZ:type_of% (fun v0 v1 v2 => @bE.eq_3 v0 (A.d (D.bool v2)) v1 (by nofun)):=by intros; rfl
theorem aSX:type_of% (fun v0 v1 v2 => @bE.eq_3 v0 (A.d (D.str v2)) v1 (by nofun)):=by intros; rfl
theorem aSD:type_of% (fun v0 v1 v2 v3 => @bE.eq_3 v0 (A.d (D.ivs v2 v3)) v1 (by nofun)):=by intros; rfl
theorem aTw:type_of% (fun v0 v1 v2 => @bE.eq_3 v0 (A.d (D.iptr v2)) v1 (by nofun)):=by intros; rfl
theorem aSy:type_of% (fun v0 v1 => @bE.eq_3 v0 (A.d D.nilp) v1 (by nofun)):=by intros; rfl
theorem aSz:type_of% (fun v0 v1 v2 v3 => @bE.eq_3 v0 (A.d (D.fn v2 v3)) v1 (by nofun)):=by intros; rfl
theorem aQ0:type_of% (fun v0 v1 => @bE.eq_3 v0 (A.d D.nilfn) v1 (by nofun)):=by intros; rfl
theorem aQY:type_of% (fun v0 v1 => @bE.eq_3 v0 (A.d D.nili) v1 (by nofun)):=by intros; rfl
theorem aRM:type_of% (fun v0 v1 => @bE.eq_3 v0 (A.d D.nilm) v1 (by nofun)):=by intros; rfl
theorem aUI:type_of% (fun v0 v1 v2 v3 => @bE.eq_3 v0 (A.d (D.ifc v2 v3)) v1 (by nofun)):=by intros; rfl
theorem aRB:type_of% (fun v0 v1 v2 v3 v4 v5 => @bE.eq_3 v0 (A.sl v2 v3 v4 v5) v1 (by nofun)):=by intros; rfl
theorem aTz:type_of% (fun v0 v1 v2 v3 v4 => @bE.eq_3 v0 (A.ptr v2 v3 v4) v1 (by nofun)):=by intros; rfl
theorem aRC:type_of% (fun v0 v1 v2 => @bE.eq_3 v0 (A.mp v2) v1 (by nofun)):=by intros; rfl
theorem aRU:type_of% (fun v0 v1 v2 v3 => @bE.eq_3 v0 (A.clo v2 v3) v1 (by nofun)):=by intros; rfl
theorem aRa:type_of% (fun v0 v1 v2 => @bE.eq_3 v0 (A.agg v2) v1 (by nofun)):=by intros; rfl
theorem aRN:type_of% (fun v0 v1 v2 => @bE.eq_3 v0 (A.tup v2) v1 (by nofun)):=by intros; rfl
theorem aRK:type_of% (fun v0 v1 => @bE.eq_3 v0 A.junk v1 (by nofun)):=by intros; rfl
theorem aTq:type_of% (fun v0 v1 v2 v3 => @mapO.eq_3 v0 (O.arr v1 v2 v3) (by nofun) (by nofun)):=by intros; rfl
theorem aT3:type_of% (fun v0 v1 v2 v3 => @mapO.eq_3 v0 (O.ice v1 v2 v3) (by nofun) (by nofun)):=by intros; rfl
theorem aUH:type_of% (fun v0 v1 => @mapO.eq_3 v0 (O.log v1) (by nofun) (by nofun)):=by intros; rfl
theorem aUp:type_of% (fun v0 v1 => @mapO.eq_3 v0 (O.mp v1) (by nofun) (by nofun)):=by intros; rfl
theorem aTd:type_of% (fun v0 => @mapO.eq_3 v0 O.void (by nofun) (by nofun)):=by intros; rfl
theorem aR6:type_of% (fun v0 v1 => @frzA.eq_2 v0 (A.d v1) (by nofun)):=by intros; rfl
theorem aSB:type_of% (fun v0 v1 v2 v3 v4 => @frzA.eq_2 v0 (A.sl v1 v2 v3 v4) (by nofun)):=by intros; rfl
theorem aRs:type_of% (fun v0 v1 v2 v3 => @frzA.eq_2 v0 (A.ptr v1 v2 v3) (by nofun)):=by intros; rfl
theorem aTC:type_of% (fun v0 v1 => @frzA.eq_2 v0 (A.mp v1) (by nofun)):=by intros; rfl
theorem aS1:type_of% (fun v0 v1 v2 => @frzA.eq_2 v0 (A.clo v1 v2) (by nofun)):=by intros; rfl
theorem aUx:type_of% (fun v0 v1 => @frzA.eq_2 v0 (A.tup v1) (by nofun)):=by intros; rfl
theorem aS0:type_of% (fun v0 => @frzA.eq_2 v0 A.junk (by nofun)):=by intros; rfl
theorem aUg:type_of% (fun v0 v1 v2 v3 v4 v5 v6 => @i7.eq_4 v0 v1 v2 (Go.Callee.invoke v5 v6) v3 v4 (by nofun) (by nofun)):=by intros; rfl
theorem UN0:type_of% (AI @aG6 (AI @aJL (AI @aGP (AI @aDh (AI @aGO (AI @aMW (AI @aOJ (AI @aJv (AI @aOP (AI @aHe (AI @aOT (AI @aJ3 (AI @aLen.eq_def (AI @ZH (AI @aGc (AI @aGk (AI @aKp (AI @aC5 (AI @aA3 (AI @aJX (AI @aDA (AI @aGG (AI @aBM (AI @YR (AI @aCd (AI @aKc (AI @aKH (AI @aJ7 (AI @aLb (AI @aO2 (AI @aPq (AI @aPz (AI @List.replicate.eq_1.{0} (AI @List.replicate.eq_2.{0} (AI @List.range'.eq_1 (AI @List.range'.eq_2 (AI True.intro (AI @ES.eq_1 (AI @ES.eq_2 @VC.eq_1))))))))))))))))))))))))))))))))))))))) :=
 ⟨@aG6,@aJL,@aGP,@aDh,@aGO,@aMW,@aOJ,@aJv,@aOP,@aHe,@aOT,@aJ3,@aLen.eq_def,@ZH,@aGc,@aGk,@aKp,@aC5,@aA3,@aJX,@aDA,@aGG,@aBM,@YR,@aCd,@aKc,@aKH,@aJ7,@aLb,@aO2,@aPq,@aPz,@List.replicate.eq_1.{0},@List.replicate.eq_2.{0},@List.range'.eq_1,@List.range'.eq_2,True.intro,@ES.eq_1,@ES.eq_2,@VC.eq_1⟩
theorem UN1:type_of% (AI @aPut.eq_1 (AI @aPut.eq_2 (AI @jO.eq_1 (AI @jO.eq_2 (AI @UNx1 (AI @UNx2 (AI @UNx3 (AI @UNx4 (AI @outA.eq_1 (AI @UNx5 (AI @UNx6 (AI @UNx7 (AI @UNx8 (AI @UNx9 (AI @aXA (AI @aXj (AI @outS.eq_1 (AI @aW1 (AI @aWS (AI @aXT (AI @aXL (AI @aWP (AI @aWY (AI @aXq (AI @aXV (AI @aW5 (AI @aW9 (AI @aXO (AI @aXB (AI @outS.eq_3 (AI @outS.eq_4 (AI @outS.eq_5 (AI @outS.eq_6 (AI @aXI (AI @aXz (AI @aXG (AI @MY.eq_1 (AI @MY.eq_2 (AI @idsA.eq_1 @idsA.eq_2))))))))))))))))))))))))))))))))))))))) :=
 ⟨@aPut.eq_1,@aPut.eq_2,@jO.eq_1,@jO.eq_2,@UNx1,@UNx2,@UNx3,@UNx4,@outA.eq_1,@UNx5,@UNx6,@UNx7,@UNx8,@UNx9,@aXA,@aXj,@outS.eq_1,@aW1,@aWS,@aXT,@aXL,@aWP,@aWY,@aXq,@aXV,@aW5,@aW9,@aXO,@aXB,@outS.eq_3,@outS.eq_4,@outS.eq_5,@outS.eq_6,@aXI,@aXz,@aXG,@MY.eq_1,@MY.eq_2,@idsA.eq_1,@idsA.eq_2⟩
theorem UN2:type_of% (AI @idsA.eq_3 (AI @idsA.eq_4 (AI @idsA.eq_5 (AI @idsA.eq_6 (AI @idsA.eq_7 (AI @idsA.eq_8 (AI @idsL.eq_1 (AI @idsL.eq_2 (AI @mapA.eq_1 (AI @mapA.eq_2 (AI @mapA.eq_3 (AI @mapA.eq_4 (AI @mapA.eq_5 (AI @mapA.eq_6 (AI @mapA.eq_7 (AI @mapA.eq_8 (AI @dD.eq_1 (AI @dD.eq_2 (AI @dM.eq_1 (AI @dM.eq_2 (AI @dM.eq_3 (AI @dM.eq_4 (AI @dM.eq_5 (AI @dM.eq_6 (AI @dM.eq_7 (AI @dM.eq_8 (AI @EJ.eq_1 (AI @VQ.eq_1 (AI @fO.eq_1 (AI @mO.eq_1 (AI @gF.eq_1 (AI @gF.eq_2 (AI @cW.eq_1 (AI @cW.eq_2 (AI @cW.eq_3 (AI @cW.eq_4 (AI @cW.eq_5 (AI @cW.eq_6 (AI @cW.eq_7 @aP.eq_1))))))))))))))))))))))))))))))))))))))) :=
 ⟨@idsA.eq_3,@idsA.eq_4,@idsA.eq_5,@idsA.eq_6,@idsA.eq_7,@idsA.eq_8,@idsL.eq_1,@idsL.eq_2,@mapA.eq_1,@mapA.eq_2,@mapA.eq_3,@mapA.eq_4,@mapA.eq_5,@mapA.eq_6,@mapA.eq_7,@mapA.eq_8,@dD.eq_1,@dD.eq_2,@dM.eq_1,@dM.eq_2,@dM.eq_3,@dM.eq_4,@dM.eq_5,@dM.eq_6,@dM.eq_7,@dM.eq_8,@EJ.eq_1,@VQ.eq_1,@fO.eq_1,@mO.eq_1,@gF.eq_1,@gF.eq_2,@cW.eq_1,@cW.eq_2,@cW.eq_3,@cW.eq_4,@cW.eq_5,@cW.eq_6,@cW.eq_7,@aP.eq_1⟩
theorem UN3:type_of% (AI @aP.eq_2 (AI @rT.eq_1 (AI @rT.eq_2 (AI @rT.eq_3 (AI @aXb (AI @eA.eq_1 (AI @eA.eq_2 (AI @aWL (AI @aXS (AI @aXd (AI @aXE (AI @aWx (AI @aWp (AI @aWG (AI @aW0 (AI @aWD (AI @aW8 (AI @aXv (AI @aWT (AI @aWW (AI @aXY (AI @aW6 (AI @aWU (AI @aXi (AI @aWs (AI @tidy.eq_1 (AI @tidy.eq_2 (AI @aWq (AI @aXl (AI @aWM (AI @dF.eq_1 (AI @aXQ (AI @aW7 (AI @aXU (AI @aXm (AI @aXx (AI @aWR (AI @aXH (AI @dF.eq_3 @nG.eq_1))))))))))))))))))))))))))))))))))))))) :=
 ⟨@aP.eq_2,@rT.eq_1,@rT.eq_2,@rT.eq_3,@aXb,@eA.eq_1,@eA.eq_2,@aWL,@aXS,@aXd,@aXE,@aWx,@aWp,@aWG,@aW0,@aWD,@aW8,@aXv,@aWT,@aWW,@aXY,@aW6,@aWU,@aXi,@aWs,@tidy.eq_1,@tidy.eq_2,@aWq,@aXl,@aWM,@dF.eq_1,@aXQ,@aW7,@aXU,@aXm,@aXx,@aWR,@aXH,@dF.eq_3,@nG.eq_1⟩
theorem UN4:type_of% (AI @aX0 (AI @aXD (AI @aXw (AI @aXp (AI @aW4 (AI @aXt (AI @aWX (AI @tS.eq_1 (AI @xT.eq_1 (AI @aLw.eq_1 (AI @IX.eq_1 (AI @aXu (AI @aWz (AI @aXa (AI @aXg (AI @aXe (AI @aXf (AI @aXR (AI @O4.eq_1 (AI @nH.eq_1 (AI @aWC (AI @aWw (AI @aWH (AI @aWJ (AI @aXr (AI @aWn (AI @aXC (AI @keeps.eq_1 (AI @logs.eq_1 (AI @qC.eq_1 (AI @aWt (AI @aWy (AI @aWF (AI @aXo (AI @aXk (AI @aXM (AI @aW2 (AI @aWV (AI @CQ.eq_1 @d9.eq_1))))))))))))))))))))))))))))))))))))))) :=
 ⟨@aX0,@aXD,@aXw,@aXp,@aW4,@aXt,@aWX,@tS.eq_1,@xT.eq_1,@aLw.eq_1,@IX.eq_1,@aXu,@aWz,@aXa,@aXg,@aXe,@aXf,@aXR,@O4.eq_1,@nH.eq_1,@aWC,@aWw,@aWH,@aWJ,@aXr,@aWn,@aXC,@keeps.eq_1,@logs.eq_1,@qC.eq_1,@aWt,@aWy,@aWF,@aXo,@aXk,@aXM,@aW2,@aWV,@CQ.eq_1,@d9.eq_1⟩
theorem UN5:type_of% (AI @d9.eq_2 (AI @d9.eq_3 (AI @d9.eq_4 (AI @oV.eq_1 (AI @uM.eq_1 (AI @IN.eq_1 (AI @rQ.eq_1 (AI @rQ.eq_2 (AI @yJ.eq_1 (AI @l9.eq_1 (AI @fG.eq_1 (AI @fG.eq_2 (AI @fG.eq_3 (AI @frzL.eq_1 (AI @iL.eq_1 (AI @iL.eq_2 (AI @frz.eq_1 (AI @frz.eq_2 (AI @frz.eq_3 (AI @frz.eq_4 (AI @aXn (AI @aXF (AI @aWN (AI @aW3 (AI @aWA (AI @frz0.eq_1 (AI @frz0.eq_2 (AI @aXs (AI @aWB (AI @aWo (AI @aWk (AI @aWr (AI @aWu (AI @deep.eq_1 (AI @bA.eq_1 (AI @aXh (AI @aXy (AI @aWl (AI @aWQ @aSf))))))))))))))))))))))))))))))))))))))) :=
 ⟨@d9.eq_2,@d9.eq_3,@d9.eq_4,@oV.eq_1,@uM.eq_1,@IN.eq_1,@rQ.eq_1,@rQ.eq_2,@yJ.eq_1,@l9.eq_1,@fG.eq_1,@fG.eq_2,@fG.eq_3,@frzL.eq_1,@iL.eq_1,@iL.eq_2,@frz.eq_1,@frz.eq_2,@frz.eq_3,@frz.eq_4,@aXn,@aXF,@aWN,@aW3,@aWA,@frz0.eq_1,@frz0.eq_2,@aXs,@aWB,@aWo,@aWk,@aWr,@aWu,@deep.eq_1,@bA.eq_1,@aXh,@aXy,@aWl,@aWQ,@aSf⟩
theorem UN6:type_of% (AI @aSJ (AI @aSw (AI @eQ.eq_1 (AI @c9.eq_1 (AI @c9.eq_2 (AI @c9.eq_3 (AI @c9.eq_4 (AI @aSN (AI @aUe (AI @aSh (AI @aTM (AI @aSj (AI @aTU (AI @aTb (AI @aRt (AI @aUW (AI @aRb (AI @aQ9 (AI @aTn (AI @aT8 (AI @aUG (AI @aTP (AI @aUl (AI @oD.eq_1 (AI @aT9 (AI @aRS (AI @aRF (AI @aSs (AI @aS4 (AI @aRe (AI @aQ2 (AI @jG.eq_1 (AI @jG.eq_2 (AI @jG.eq_3 (AI @aTl (AI @aTT (AI @aTJ (AI @aSp (AI @aRH @pR.eq_1))))))))))))))))))))))))))))))))))))))) :=
 ⟨@aSJ,@aSw,@eQ.eq_1,@c9.eq_1,@c9.eq_2,@c9.eq_3,@c9.eq_4,@aSN,@aUe,@aSh,@aTM,@aSj,@aTU,@aTb,@aRt,@aUW,@aRb,@aQ9,@aTn,@aT8,@aUG,@aTP,@aUl,@oD.eq_1,@aT9,@aRS,@aRF,@aSs,@aS4,@aRe,@aQ2,@jG.eq_1,@jG.eq_2,@jG.eq_3,@aTl,@aTT,@aTJ,@aSp,@aRH,@pR.eq_1⟩
theorem UN7:type_of% (AI @pR.eq_2 (AI @HT.eq_1 (AI @HT.eq_2 (AI @DH.eq_1 (AI @DH.eq_2 (AI @tupA.eq_1 (AI @aRA (AI @aUs (AI @kI.eq_1 (AI @kI.eq_2 (AI @kI.eq_3 (AI @kI.eq_4 (AI @yU.eq_1 (AI @yU.eq_2 (AI @opds.eq_1 (AI @opds.eq_2 (AI @opds.eq_3 (AI @opds.eq_4 (AI @opds.eq_5 (AI @opds.eq_6 (AI @opds.eq_7 (AI @opds.eq_8 (AI @opds.eq_9 (AI @opds.eq_10 (AI @opds.eq_11 (AI @opds.eq_12 (AI @opds.eq_13 (AI @opds.eq_14 (AI @opds.eq_15 (AI @opds.eq_16 (AI @opds.eq_17 (AI @opds.eq_18 (AI @opds.eq_19 (AI @opds.eq_20 (AI @opds.eq_21 (AI @opds.eq_22 (AI @opds.eq_23 (AI @opds.eq_24 (AI @aTN @aRu))))))))))))))))))))))))))))))))))))))) :=
 ⟨@pR.eq_2,@HT.eq_1,@HT.eq_2,@DH.eq_1,@DH.eq_2,@tupA.eq_1,@aRA,@aUs,@kI.eq_1,@kI.eq_2,@kI.eq_3,@kI.eq_4,@yU.eq_1,@yU.eq_2,@opds.eq_1,@opds.eq_2,@opds.eq_3,@opds.eq_4,@opds.eq_5,@opds.eq_6,@opds.eq_7,@opds.eq_8,@opds.eq_9,@opds.eq_10,@opds.eq_11,@opds.eq_12,@opds.eq_13,@opds.eq_14,@opds.eq_15,@opds.eq_16,@opds.eq_17,@opds.eq_18,@opds.eq_19,@opds.eq_20,@opds.eq_21,@opds.eq_22,@opds.eq_23,@opds.eq_24,@aTN,@aRu⟩
theorem UN8:type_of% (AI @aUy (AI @aSl (AI @aR1 (AI @aTZ (AI @aR0 (AI @aTK (AI @aTv (AI @aTh (AI @aTX (AI @aSA (AI @aS8 (AI @aSV (AI @aSi (AI @aU0 (AI @aRp (AI @aSr (AI @evOp.eq_1 (AI @lV.eq_1 (AI @one.eq_1 (AI @two.eq_1 (AI @IV.eq_1 (AI @aSa (AI @aRV (AI @aQ1 (AI @aT5 (AI @y0.eq_1 (AI @IA.eq_1 (AI @dR.eq_1 (AI @aRI (AI @aUK (AI @aSe (AI @aUz (AI @aTS (AI @aS5 (AI @aSq (AI @aQ5 (AI @aTx (AI @aST (AI @aUj @aUX))))))))))))))))))))))))))))))))))))))) :=
 ⟨@aUy,@aSl,@aR1,@aTZ,@aR0,@aTK,@aTv,@aTh,@aTX,@aSA,@aS8,@aSV,@aSi,@aU0,@aRp,@aSr,@evOp.eq_1,@lV.eq_1,@one.eq_1,@two.eq_1,@IV.eq_1,@aSa,@aRV,@aQ1,@aT5,@y0.eq_1,@IA.eq_1,@dR.eq_1,@aRI,@aUK,@aSe,@aUz,@aTS,@aS5,@aSq,@aQ5,@aTx,@aST,@aUj,@aUX⟩
theorem UN9:type_of% (AI @aRQ (AI @aRm (AI @aT7 (AI @aUL (AI @aUY (AI @aUS (AI @aTa (AI @aRx (AI @aUr (AI @aSo (AI @aNew.eq_1 (AI @l8.eq_1 (AI @l8.eq_2 (AI @l8.eq_3 (AI @l8.eq_4 (AI @NF.eq_1 (AI @C9.eq_1 (AI @VG.eq_1 (AI @cV.eq_1 (AI @cV.eq_2 (AI @cV.eq_3 (AI @cV.eq_4 (AI @cV.eq_5 (AI @cV.eq_6 (AI @cV.eq_7 (AI @cV.eq_8 (AI @cV.eq_9 (AI @cV.eq_10 (AI @cV.eq_11 (AI @bZ.eq_1 (AI @aSb (AI @aQ6 (AI @aT6 (AI @aRg (AI @aRy (AI @aRE (AI @aSu (AI @aSC (AI @aU1 @aR8))))))))))))))))))))))))))))))))))))))) :=
 ⟨@aRQ,@aRm,@aT7,@aUL,@aUY,@aUS,@aTa,@aRx,@aUr,@aSo,@aNew.eq_1,@l8.eq_1,@l8.eq_2,@l8.eq_3,@l8.eq_4,@NF.eq_1,@C9.eq_1,@VG.eq_1,@cV.eq_1,@cV.eq_2,@cV.eq_3,@cV.eq_4,@cV.eq_5,@cV.eq_6,@cV.eq_7,@cV.eq_8,@cV.eq_9,@cV.eq_10,@cV.eq_11,@bZ.eq_1,@aSb,@aQ6,@aT6,@aRg,@aRy,@aRE,@aSu,@aSC,@aU1,@aR8⟩
theorem UN10:type_of% (AI @aTO (AI @aUb (AI @aUk (AI @aUq (AI @aR2 (AI @aTQ (AI @aRX (AI @aR4 (AI @aTf (AI @aRr (AI @aTE (AI @aRv (AI @aRO (AI @aRk (AI @aTD (AI @aTs (AI @aUt (AI @aUF (AI @aT2 (AI @aUi (AI @aTH (AI @aRl (AI @aTL (AI @aTg (AI @aTI (AI @aSn (AI @aUm (AI @aRf (AI @aRJ (AI @aQZ (AI @aTp (AI @aSt (AI @back.eq_1 (AI @bJ.eq_1 (AI @bJ.eq_2 (AI @bJ.eq_3 (AI @aI.eq_1 (AI @closed.eq_1 (AI @nW.eq_1 @bE.eq_1))))))))))))))))))))))))))))))))))))))) :=
 ⟨@aTO,@aUb,@aUk,@aUq,@aR2,@aTQ,@aRX,@aR4,@aTf,@aRr,@aTE,@aRv,@aRO,@aRk,@aTD,@aTs,@aUt,@aUF,@aT2,@aUi,@aTH,@aRl,@aTL,@aTg,@aTI,@aSn,@aUm,@aRf,@aRJ,@aQZ,@aTp,@aSt,@back.eq_1,@bJ.eq_1,@bJ.eq_2,@bJ.eq_3,@aI.eq_1,@closed.eq_1,@nW.eq_1,@bE.eq_1⟩
theorem UN11:type_of% (AI @bE.eq_2 (AI @aUO (AI @aQ3 (AI @aUZ (AI @aSX (AI @aSD (AI @aTw (AI @aSy (AI @aSz (AI @aQ0 (AI @aQY (AI @aRM (AI @aUI (AI @aRB (AI @aTz (AI @aRC (AI @aRU (AI @aRa (AI @aRN (AI @aRK (AI @aH.eq_1 (AI @aH.eq_2 (AI @pack.eq_1 (AI @mapO.eq_1 (AI @mapO.eq_2 (AI @aTq (AI @aT3 (AI @aUH (AI @aUp (AI @aTd (AI @b7.eq_1 (AI @frzA.eq_1 (AI @aR6 (AI @aSB (AI @aRs (AI @aTC (AI @aS1 (AI @aUx (AI @aS0 @k5.eq_1))))))))))))))))))))))))))))))))))))))) :=
 ⟨@bE.eq_2,@aUO,@aQ3,@aUZ,@aSX,@aSD,@aTw,@aSy,@aSz,@aQ0,@aQY,@aRM,@aUI,@aRB,@aTz,@aRC,@aRU,@aRa,@aRN,@aRK,@aH.eq_1,@aH.eq_2,@pack.eq_1,@mapO.eq_1,@mapO.eq_2,@aTq,@aT3,@aUH,@aUp,@aTd,@b7.eq_1,@frzA.eq_1,@aR6,@aSB,@aRs,@aTC,@aS1,@aUx,@aS0,@k5.eq_1⟩
theorem UN12:type_of% (AI @k5.eq_2 (AI @memD.eq_1 (AI @QD.eq_1 (AI @rW.eq_1 (AI @i7.eq_1 (AI @i7.eq_2 (AI @i7.eq_3 @aUg))))))) :=
 ⟨@k5.eq_2,@memD.eq_1,@QD.eq_1,@rW.eq_1,@i7.eq_1,@i7.eq_2,@i7.eq_3,@aUg⟩
theorem UN:type_of% (AI @UN0 (AI @UN1 (AI @UN2 (AI @UN3 (AI @UN4 (AI @UN5 (AI @UN6 (AI @UN7 (AI @UN8 (AI @UN9 (AI @UN10 (AI @UN11 @UN12)))))))))))) :=
 ⟨@UN0,@UN1,@UN2,@UN3,@UN4,@UN5,@UN6,@UN7,@UN8,@UN9,@UN10,@UN11,@UN12⟩
theorem aWm:type_of% (fun v0 v1 v2 v3 v4 => @slim.eq_9 v0 (Go.Code.rangeFunc v1 v2 v3 v4) (by nofun) (by nofun) (by nofun) (by nofun) (by nofun) (by nofun) (by nofun) (by nofun)):=(fun v0 v1 v2 v3 v4 => @slim.eq_9 v0 (Go.Code.rangeFunc v1 v2 v3 v4) (by nofun) (by nofun) (by nofun) (by nofun) (by nofun) (by nofun) (by nofun) (by nofun))
theorem aXW:type_of% (fun v0 v1 => @slim.eq_9 v0 (Go.Code.scope v1) (by nofun) (by nofun) (by nofun) (by nofun) (by nofun) (by nofun) (by nofun) (by nofun)):=(fun v0 v1 => @slim.eq_9 v0 (Go.Code.scope v1) (by nofun) (by nofun) (by nofun) (by nofun) (by nofun) (by nofun) (by nofun) (by nofun))
theorem aWE:type_of% (fun v0 v1 => @slim.eq_9 v0 (Go.Code.label v1) (by nofun) (by nofun) (by nofun) (by nofun) (by nofun) (by nofun) (by nofun) (by nofun)):=(fun v0 v1 => @slim.eq_9 v0 (Go.Code.label v1) (by nofun) (by nofun) (by nofun) (by nofun) (by nofun) (by nofun) (by nofun) (by nofun))
theorem aWZ:type_of% (fun v0 v1 => @slim.eq_9 v0 (Go.Code.goto v1) (by nofun) (by nofun) (by nofun) (by nofun) (by nofun) (by nofun) (by nofun) (by nofun)):=(fun v0 v1 => @slim.eq_9 v0 (Go.Code.goto v1) (by nofun) (by nofun) (by nofun) (by nofun) (by nofun) (by nofun) (by nofun) (by nofun))
theorem aWK:type_of% (fun v0 v1 => @slim.eq_9 v0 (Go.Code.refuse v1) (by nofun) (by nofun) (by nofun) (by nofun) (by nofun) (by nofun) (by nofun) (by nofun)):=(fun v0 v1 => @slim.eq_9 v0 (Go.Code.refuse v1) (by nofun) (by nofun) (by nofun) (by nofun) (by nofun) (by nofun) (by nofun) (by nofun))
theorem aXP:type_of% (@bW.eq_5 Go.Code.skip (by nofun) (by nofun) (by nofun) (by nofun)):=(@bW.eq_5 Go.Code.skip (by nofun) (by nofun) (by nofun) (by nofun))
theorem aXZ:type_of% (fun v0 v1 v2 => @bW.eq_5 (Go.Code.region v0 v1 v2) (by nofun) (by nofun) (by nofun) (by nofun)):=(fun v0 v1 v2 => @bW.eq_5 (Go.Code.region v0 v1 v2) (by nofun) (by nofun) (by nofun) (by nofun))
theorem aXc:type_of% (fun v0 v1 v2 v3 => @bW.eq_5 (Go.Code.rangeFunc v0 v1 v2 v3) (by nofun) (by nofun) (by nofun) (by nofun)):=(fun v0 v1 v2 v3 => @bW.eq_5 (Go.Code.rangeFunc v0 v1 v2 v3) (by nofun) (by nofun) (by nofun) (by nofun))
theorem aWO:type_of% (fun v0 => @bW.eq_5 (Go.Code.exit v0) (by nofun) (by nofun) (by nofun) (by nofun)):=(fun v0 => @bW.eq_5 (Go.Code.exit v0) (by nofun) (by nofun) (by nofun) (by nofun))
theorem aTc:type_of% (fun v0 => @bW.eq_5 (Go.Code.scope v0) (by nofun) (by nofun) (by nofun) (by nofun)):=(fun v0 => @bW.eq_5 (Go.Code.scope v0) (by nofun) (by nofun) (by nofun) (by nofun))
theorem aUh:type_of% (fun v0 => @bW.eq_5 (Go.Code.label v0) (by nofun) (by nofun) (by nofun) (by nofun)):=(fun v0 => @bW.eq_5 (Go.Code.label v0) (by nofun) (by nofun) (by nofun) (by nofun))
theorem aRo:type_of% (fun v0 => @bW.eq_5 (Go.Code.goto v0) (by nofun) (by nofun) (by nofun) (by nofun)):=(fun v0 => @bW.eq_5 (Go.Code.goto v0) (by nofun) (by nofun) (by nofun) (by nofun))
theorem aSI:type_of% (@bW.eq_5 Go.Code.ret (by nofun) (by nofun) (by nofun) (by nofun)):=(@bW.eq_5 Go.Code.ret (by nofun) (by nofun) (by nofun) (by nofun))
theorem aTF:type_of% (fun v0 => @bW.eq_5 (Go.Code.refuse v0) (by nofun) (by nofun) (by nofun) (by nofun)):=(fun v0 => @bW.eq_5 (Go.Code.refuse v0) (by nofun) (by nofun) (by nofun) (by nofun))
theorem SLM0:type_of% (AI @Option.getD_some.{0} (AI @List.length_nil.{0} (AI @Nat.add_zero (AI @Nat.zero_add (AI @List.map_cons.{0,0} (AI @List.map_nil.{0,0} (AI @List.getElem?_cons_zero.{0} (AI @List.getElem?_cons_succ.{0} (AI @Option.bind_some.{0,0} (AI @Bool.false_eq_true (AI @if_false.{0} (AI @if_true.{0} (AI @List.length_cons.{0} (AI @List.replicate.eq_1.{0} (AI @List.replicate.eq_2.{0} (AI @List.cons_append.{0} (AI @List.nil_append.{0} (AI @List.append_nil.{0} (AI @List.getD_cons_zero.{0} (AI @List.getD_cons_succ.{0} (AI @bG.eq_1 (AI @bO.eq_1 (AI @lpOf.eq_1 (AI @a7.eq_1 (AI @slim.eq_1 (AI @slim.eq_2 (AI @slim.eq_3 (AI @slim.eq_4 (AI @slim.eq_5 (AI @slim.eq_6 (AI @slim.eq_7 (AI @slim.eq_8 (AI @aWm (AI @aXW (AI @aWE (AI @aWZ (AI @aWK (AI @bW.eq_1 (AI @bW.eq_2 @bW.eq_3))))))))))))))))))))))))))))))))))))))) :=
 ⟨@Option.getD_some.{0},@List.length_nil.{0},@Nat.add_zero,@Nat.zero_add,@List.map_cons.{0,0},@List.map_nil.{0,0},@List.getElem?_cons_zero.{0},@List.getElem?_cons_succ.{0},@Option.bind_some.{0,0},@Bool.false_eq_true,@if_false.{0},@if_true.{0},@List.length_cons.{0},@List.replicate.eq_1.{0},@List.replicate.eq_2.{0},@List.cons_append.{0},@List.nil_append.{0},@List.append_nil.{0},@List.getD_cons_zero.{0},@List.getD_cons_succ.{0},@bG.eq_1,@bO.eq_1,@lpOf.eq_1,@a7.eq_1,@slim.eq_1,@slim.eq_2,@slim.eq_3,@slim.eq_4,@slim.eq_5,@slim.eq_6,@slim.eq_7,@slim.eq_8,@aWm,@aXW,@aWE,@aWZ,@aWK,@bW.eq_1,@bW.eq_2,@bW.eq_3⟩
theorem SLM1:type_of% (AI @bW.eq_4 (AI @aXP (AI @aXZ (AI @aXc (AI @aWO (AI @aTc (AI @aUh (AI @aRo (AI @aSI (AI @aTF (AI @MW.eq_1 (AI @RJ.eq_1 @RJ.eq_2)))))))))))) :=
 ⟨@bW.eq_4,@aXP,@aXZ,@aXc,@aWO,@aTc,@aUh,@aRo,@aSI,@aTF,@MW.eq_1,@RJ.eq_1,@RJ.eq_2⟩
theorem SLM:type_of% (AI @SLM0 @SLM1) :=
 ⟨@SLM0,@SLM1⟩
theorem LN:type_of% (AI @List.length_append.{0} (AI @List.length_cons.{0} (AI @List.length_nil.{0} (AI @List.length_set.{0} (AI @List.length_replicate.{0} (AI @List.length_map.{0,0} (AI @List.length_take.{0} @List.length_drop.{0}))))))) :=
 ⟨@List.length_append.{0},@List.length_cons.{0},@List.length_nil.{0},@List.length_set.{0},@List.length_replicate.{0},@List.length_map.{0,0},@List.length_take.{0},@List.length_drop.{0}⟩
theorem GT:type_of% (AI @List.getElem?_cons_zero.{0} @List.getElem?_cons_succ.{0}) :=
 ⟨@List.getElem?_cons_zero.{0},@List.getElem?_cons_succ.{0}⟩
end Ev
end Go.Proofs.YtejmccgfigiadaaGreat
