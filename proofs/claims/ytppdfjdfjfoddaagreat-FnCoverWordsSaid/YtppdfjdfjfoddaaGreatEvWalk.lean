/-
  How each operation goes, in the form in which the evaluator is walked.
-/
import Derived.Test.YtppdfjdfjfoddaaGreatEvPrim
set_option linter.unusedSimpArgs false
set_option linter.unusedVariables false
namespace Go.Proofs.YtppdfjdfjfoddaaGreat
namespace Ev
section
variable {R:Type} {E:Env} {call:a7} {thaw:List Nat} {dst:Option Tmp} {s:List A} {h:H} {k:A → H → Option R}
structure Now (p:Prop):Prop where
 it:p
structure Shut (p:Prop):Prop where
 it:p
inductive Box (α:Type) where
 | mk (a:α)
 | no
def box {α:Type} (a:α):Box α:=.mk a
theorem aMi {α:Type} {a:α}:box a = .mk a:=rfl
theorem aOl {t:Nat} {q:A → Option R}:kv s (.tmp t) q = match box (s.getD t (.d .undef)) with | .no => none | .mk a => q a:=rfl
theorem aNw {K:IntKind} {n:Int} {q:A → Option R}:kv s (.const (.int K n)) q = q (.d (.int K n)):=rfl
theorem aK9 {b:Bool} {q:A → Option R}:kv s (.const (.bool b)) q = q (.d (.bool b)):=rfl
theorem aNe {b:ByteArray} {q:A → Option R}:kv s (.const (.string b)) q = match box b.data.toList with | .no => none | .mk l => q (.d (.str l)):=rfl
theorem aK0 {q:A → Option R}:kv s (.const (.pointer none)) q = q (.d .nilp):=rfl
theorem aK7 {q:A → Option R}:kv s (.const (.slice none 0 0)) q = q (.d .nils):=rfl
theorem aKU {f:FuncId} {q:A → Option R}:kv s (.func f) q = q (.clo f []):=rfl
theorem aMH {cs:Array Value} {q:A → Option R}:kv s (.const (.agg cs)) q = match y4 cs.toList with
  | some as => q (.agg as)
  | none => none:=by
 unfold kv; simp only [dH,JH]
 cases y4 cs.toList <;> rfl
theorem aKR {q:List A → Option R}:kvs s [] q = q []:=rfl
theorem aIe {x:Operand} {xs:List Operand} {q:List A → Option R}:kvs s (x :: xs) q = kv s x fun a => kvs s xs fun as => q (a :: as):=by
 unfold kvs kv
 simp only [cC]
 cases dH s x with
 | none => rfl
 | some a => cases cC s xs <;> rfl
theorem aAu {yes no:List A → Option R}:x7 none s yes no = yes s:=rfl
theorem aAa {t:Nat} {w:Bool} {yes no:List A → Option R}:x7 (some (some t,w)) s yes no = match s.getD t .junk with
  | .d (.bool b) => if b = w then (match box (s.set t (.d (.bool w))) with | .no => none | .mk s => yes s) else (match box (s.set t (.d (.bool (!w)))) with | .no => none | .mk s => no s)
  | .d .undef => no s
  | _ => none:=by
 simp only [x7,List.getD_eq_getElem?_getD]
 cases s[t]? with
 | none => rfl
 | some a =>
  cases a with
  | d x => cases x <;> rfl
  | _ => rfl
theorem aI5 {x:Operand}:kOp E call thaw dst (.move x) s h k = kv s x fun a => k a h:=by
 unfold kOp kvs kv
 simp only [opds,cC]
 cases dH s x <;> rfl
def kAsg (thaw:List Nat) (dst:Option Tmp) (h:H) (k:A → H → Option R) (a:A):Option R :=
 match a with
 | .d .nils => match F3 thaw dst with
  | 0 => k (.d .nils) h
  | e + 1 => if e < 1000 then k (.sl h.length 0 0 0) (h ++ [.arr [] e 0]) else k (.sl h.length 0 0 0) (h ++ [.vec [] (e - 1000) 0])
 | a => k a h
theorem QG {t:Nat}:kOp E call thaw dst (.assign (.tmp t)) s h k = match box (s.getD t (.d .undef)) with | .no => none | .mk a => k a h:=by
 unfold kOp kvs
 simp only [opds,cC,dH,b8,Bool.false_eq_true,if_false]
 rfl
theorem KL {v:Value}:kOp E call thaw dst (.assign (.const v)) s h k = kv s (.const v) (kAsg thaw dst h k):=by
 unfold kOp kvs kv kAsg
 simp only [opds,cC]
 cases dH s (.const v) with
 | none => rfl
 | some a =>
  simp only [b8,Bool.false_eq_true,if_false,evOp,one,dV,gK]
  cases a with
  | d x =>
   cases x with
   | nils => cases ht:F3 thaw dst with
    | zero => simp [ht]
    | succ e => by_cases he:e < 1000 <;> simp [ht,he]
   | _ => rfl
  | _ => rfl
theorem L9 {f:FuncId}:kOp E call thaw dst (.assign (.func f)) s h k = k (.clo f []) h:=by
 rfl
def kRet (r:Option (A × H)) (k:A → H → Option R):Option R :=
 match r with
 | some (a,h') => k a h'
 | none => none
theorem aKT {op:BinOp} {t:TypeId} {x y:Operand} {t2:TypeId}:kOp E call thaw dst (.binOp op t x y t2) s h k = kv s x fun a => kv s y fun b => kRet (c9 E op t h a b) k:=by
 unfold kOp kvs kv kRet
 simp only [opds,cC]
 cases dH s x with
 | none => rfl
 | some a => cases dH s y <;> rfl
theorem aNu {op:UnOp} {t:TypeId} {x:Operand}:kOp E call thaw dst (.unOp op t x) s h k = kv s x fun a => kRet ((aUn op a).map fun r => (r,h)) k:=by
 unfold kOp kvs kv kRet
 simp only [opds,cC]
 cases dH s x <;> rfl
theorem aIo {c x y:Operand}:kOp E call thaw dst (.pick c x y) s h k = kv s c fun b => kv s x fun a => kv s y fun a' => kRet (QM h [b,a,a']) k:=by
 unfold kOp kvs kv kRet
 simp only [opds,cC]
 cases dH s c with
 | none => rfl
 | some b => cases dH s x with
  | none => rfl
  | some a => cases dH s y <;> rfl
theorem WB {x:Operand}:kOp E call thaw dst (.nilCheck x) s h k = kv s x fun a => kRet (j8 h a) k:=by
 unfold kOp kvs kv kRet
 simp only [opds,cC]
 cases dH s x <;> rfl
theorem aH5 {t u:TypeId} {x:Operand}:kOp E call thaw dst (.convert t u x) s h k = kv s x fun a => kRet (fO E.P h t u a) k:=by
 unfold kOp kvs kv kRet
 simp only [opds,cC]
 cases dH s x <;> rfl
theorem aH4 {t:TypeId} {x:Operand}:kOp E call thaw dst (.load t x) s h k = kv s x fun a => kRet ((EZ E.P h t a).map fun v => (v,h)) k:=by
 unfold kOp kvs kv kRet
 simp only [opds,cC]
 cases dH s x <;> rfl
theorem aGC {t:TypeId} {x y:Operand}:kOp E call thaw dst (.store t x y) s h k = kv s x fun a => kv s y fun b => kRet ((oE E.P h t a b).map fun h' => (.d .undef,h')) k:=by
 unfold kOp kvs kv kRet
 simp only [opds,cC]
 cases dH s x with
 | none => rfl
 | some a => cases dH s y <;> rfl
theorem aFl {t:TypeId}:kOp E call thaw dst (.alloc t) s h k = match box (bY E.P t) with
  | .no => none
  | .mk none => none
  | .mk (some z) => kRet (aNew h z) k:=by
 unfold kOp kvs kRet
 simp only [opds,cC,b8,Bool.false_eq_true,if_false,evOp,gK,box]
 cases bY E.P t <;> rfl
theorem aKE {t:TypeId} {x:Operand}:kOp E call thaw dst (.box t x) s h k = kv s x fun a => kRet (aNew h a) k:=by
 unfold kOp kvs kv kRet
 simp only [opds,cC]
 cases dH s x <;> rfl
theorem aFt {t:TypeId} {ps:List (Nat × Operand)}:kOp E call thaw dst (.build t ps.toArray) s h k = match box (ps.map (·.2)) with
  | .no => none
  | .mk xs => kvs s xs fun vs => kRet ((jP E.P t ((ps.map (·.1)).zip vs)).map fun a => (a,h)) k:=by
 unfold kOp kRet
 rfl
theorem P6 {t:TypeId} {n:Nat} {ps:List (Nat × Operand)}:kOp E call thaw dst (.buildSlice t n ps.toArray) s h k = match box (ps.map (·.2)) with
  | .no => none
  | .mk xs => kvs s xs fun vs => kRet (if E8 thaw dst = true then vJ E.P h t n ((ps.map (·.1)).zip vs) else tQ E.P h t n ((ps.map (·.1)).zip vs)) k:=by
 unfold kOp kRet
 rfl
theorem UT {fn:Fn} {cap:List Operand}:kOp E call thaw dst (.makeFunc fn #[] cap.toArray) s h k = kvs s cap fun vs => kRet (PT h fn true vs) k:=by
 unfold kOp kRet
 rfl
theorem TM {t:TypeId} {x y:Operand}:kOp E call thaw dst (.makeSlice t x y) s h k = kv s x fun a => kv s y fun b => kRet (lY a fun l => lY b fun c => if E8 thaw dst = true then LT E.P h t l c else lN E.P h t l c) k:=by
 unfold kOp kvs kv kRet
 simp only [opds,cC]
 cases dH s x with
 | none => rfl
 | some a => cases dH s y <;> rfl
theorem aAD {t:TypeId} {x:Operand}:kOp E call thaw dst (.slice t x none none none) s h k = kvs s [x] fun vs => kRet (lX E.P h t false false vs) k:=rfl
theorem aAE {t:TypeId} {x lo:Operand}:kOp E call thaw dst (.slice t x (some lo) none none) s h k = kvs s [x,lo] fun vs => kRet (lX E.P h t true false vs) k:=rfl
theorem aAZ {t:TypeId} {x hi:Operand}:kOp E call thaw dst (.slice t x none (some hi) none) s h k = kvs s [x,hi] fun vs => kRet (lX E.P h t false true vs) k:=rfl
theorem ZK {t:TypeId} {x lo hi:Operand}:kOp E call thaw dst (.slice t x (some lo) (some hi) none) s h k = kvs s [x,lo,hi] fun vs => kRet (lX E.P h t true true vs) k:=rfl
theorem S4 {t:TypeId} {x:Operand} {f:Nat}:kOp E call thaw dst (.fieldAddr t x f) s h k = kv s x fun a => kRet ((bF E.P t f).bind fun r => (wJ r.1 a).map fun r => (r,h)) k:=by
 unfold kOp kvs kv kRet
 simp only [opds,cC]
 cases dH s x <;> rfl
theorem aFS {t:TypeId} {x:Operand} {f:Nat}:kOp E call thaw dst (.field t x f) s h k = kv s x fun a => kRet (IX E.P h t f a) k:=by
 unfold kOp kvs kv kRet
 simp only [opds,cC]
 cases dH s x <;> rfl
theorem SH {t:TypeId} {x y:Operand}:kOp E call thaw dst (.indexAddr t x y) s h k = kv s x fun a => kv s y fun b => kRet (lY b fun i => (s4 E.P h t a i).map fun r => (r,h)) k:=by
 unfold kOp kvs kv kRet
 simp only [opds,cC]
 cases dH s x with
 | none => rfl
 | some a => cases dH s y <;> rfl
theorem aFQ {t:TypeId} {x y:Operand}:kOp E call thaw dst (.index t x y) s h k = kv s x fun a => kv s y fun b => kRet (lY b fun i => (QK E.P t a i).map fun r => (r,h)) k:=by
 unfold kOp kvs kv kRet
 simp only [opds,cC]
 cases dH s x with
 | none => rfl
 | some a => cases dH s y <;> rfl
theorem ZN {t:TypeId}:kOp E call thaw dst (.makeMap t none) s h k = k (.mp h.length) (h ++ [.mp []]):=rfl
theorem aBN {t:TypeId} {x y:Operand} {ok:Bool}:kOp E call thaw dst (.lookup t x y ok) s h k = kv s x fun a => kv s y fun b => kRet (z8 E.P h t ok a b) k:=by
 unfold kOp kvs kv kRet
 simp only [opds,cC]
 cases dH s x with
 | none => rfl
 | some a => cases dH s y <;> rfl
theorem SG {t:TypeId} {x y z:Operand}:kOp E call thaw dst (.mapUpdate t x y z) s h k = kv s x fun a => kv s y fun b => kv s z fun c => kRet (nD E.P h t a b c) k:=by
 unfold kOp kvs kv kRet
 simp only [opds,cC]
 cases dH s x with
 | none => rfl
 | some a => cases dH s y with
  | none => rfl
  | some b => cases dH s z <;> rfl
theorem aJP {t:TypeId} {x y z:Operand}:kOp E call thaw dst (.insert t x y z) s h k = kv s x fun a => kv s y fun b => kv s z fun c => kRet (nD E.P h t a b c) k:=by
 unfold kOp kvs kv kRet
 simp only [opds,cC]
 cases dH s x with
 | none => rfl
 | some a => cases dH s y with
  | none => rfl
  | some b => cases dH s z <;> rfl
theorem aA1 {x:Operand} {i:Nat}:kOp E call thaw dst (.extract x i) s h k = kv s x fun a => kRet (AK h i a) k:=by
 unfold kOp kvs kv kRet
 simp only [opds,cC]
 cases dH s x <;> rfl
theorem aAV {b:Builtin} {args:List Operand} {tys:List TypeId}:kOp E call thaw dst (.call ⟨.builtin b,args.toArray,tys.toArray⟩) s h k = kvs s args fun vs => kRet (dD E.P h b tys vs) k:=by
 unfold kOp kRet
 rfl
theorem eD {op:Op} {q:A → H → Foot → Option R} (hp:Now (cU op = true ∧ b8 op = false)):kOpD E call thaw dst op s h q = kOp E call thaw dst op s h fun a _ => q a h {}:=by
 obtain ⟨hp,hc⟩:=hp.it
 unfold kOpD kOp kvs
 rw [hp,hc]
 cases cC s (opds op) with
 | none => rfl
 | some vs =>
  simp only [if_true,Bool.false_eq_true,if_false]
def memD (E:Env) (call:a7) (thaw:List Nat) (dst:Option Tmp) (op:Op) (h:H) (vs:List A):Option (A × H × Foot):=match box (aD aE h (idsL vs) []) with
 | .no => none
 | .mk ord => match box (evOp E call thaw (pack h ord) (gK dst op) (aF (aJ ord) vs)) with
  | .mk (some (a,h1)) => if ord.length ≤ h1.length ∧ closed h ord (idsL vs) = true then
    (if (fG E op vs && h1.length - ord.length == 0) = true then some (mapA (back ord h.length h1.length) a,h,{ ids:=ord,ro:=true })
    else some (mapA (back ord h.length h1.length) a,bP (back ord h.length h1.length) h ord h1,{ ids:=ord ++ List.range' h.length (h1.length - ord.length),ro:=false,wr:=wrOf E op vs ord ++ List.range' h.length (h1.length - ord.length) }))
   else none
  | _ => none
theorem gO {op:Op} {q:A → H → Foot → Option R} (hp:Now (cU op = false ∧ n7 op = false)):kOpD E call thaw dst op s h q = match box (opds op) with | .no => none | .mk xs => kvs s xs fun vs => match box (memD E call thaw dst op h vs) with
  | .mk (some (a,h',c)) => q a h' c
  | _ => none:=by
 simp only [box]
 unfold kOpD kvs
 rw [hp.it.1,hp.it.2]
 cases cC s (opds op) with
 | none => rfl
 | some vs =>
  simp only [Bool.false_eq_true,if_false,lH,memD,box]
  cases evOp E call thaw (pack h (aD aE h (idsL vs) [])) (gK dst op) (aF (aJ (aD aE h (idsL vs) [])) vs) with
  | none => rfl
  | some r =>
   obtain ⟨a,h1⟩:=r
   by_cases hc:(aD aE h (idsL vs) []).length ≤ h1.length ∧ closed h (aD aE h (idsL vs) []) (idsL vs) = true
   ·simp only [if_pos hc]
    by_cases hr:(fG E op vs && h1.length - (aD aE h (idsL vs) []).length == 0) = true
    ·simp only [if_pos hr]
    ·simp only [if_neg hr]
   ·simp only [if_neg hc]
theorem F0 {op:Op} {q:A → H → Foot → Option R} (hp:Now (cU op = false ∧ n7 op = true ∧ b8 op = false)):kOpD E call thaw dst op s h q = kvs s (opds op) fun vs => kOp E call thaw dst op s h fun a _ => q a h { ids:=ids0 vs,ro:=true }:=by
 unfold kOpD kOp kvs
 rw [hp.it.1,hp.it.2.1,hp.it.2.2]
 cases cC s (opds op) with
 | none => rfl
 | some vs => simp only [Bool.false_eq_true,if_false,if_true]
theorem LZ {x:Operand} {xs:List Operand} {op:Op} {q:A → H → Foot → Option R} (hx:opds op = x :: xs):(kvs s (opds op) fun vs => kOp E call thaw dst op s h fun a _ => q a h { ids:=ids0 vs,ro:=true }) = kv s x fun b => kOp E call thaw dst op s h fun a _ => q a h { ids:=idsA b,ro:=true }:=by
 unfold kOp kv
 rw [hx]
 unfold kvs
 simp only [cC]
 cases dH s x with
 | none => rfl
 | some b =>
  cases cC s xs with
  | none => rfl
  | some bs => rfl
theorem aE0 {t:TypeId} {x:Operand} {q:A → H → Foot → Option R}:kOpD E call thaw dst (.load t x) s h q = kv s x fun b => kOp E call thaw dst (.load t x) s h fun a _ => q a h { ids:=idsA b,ro:=true }:=(F0 ⟨rfl,rfl,rfl⟩).trans (LZ rfl)
theorem Z7 {t:TypeId} {x y:Operand} {ok:Bool} {q:A → H → Foot → Option R}:kOpD E call thaw dst (.lookup t x y ok) s h q = kv s x fun b => kOp E call thaw dst (.lookup t x y ok) s h fun a _ => q a h { ids:=idsA b,ro:=true }:=(F0 ⟨rfl,rfl,rfl⟩).trans (LZ rfl)
theorem V4 {t:TypeId} {q:A → H → Foot → Option R}:type_of% (gO (E:=E) (call:=call) (thaw:=thaw) (dst:=dst) (s:=s) (h:=h) (op:=.makeMap t none) (q:=q) ⟨rfl,rfl⟩):=gO ⟨rfl,rfl⟩
theorem QC {t:TypeId} {x y z:Operand} {q:A → H → Foot → Option R}:type_of% (gO (E:=E) (call:=call) (thaw:=thaw) (dst:=dst) (s:=s) (h:=h) (op:=.mapUpdate t x y z) (q:=q) ⟨rfl,rfl⟩):=gO ⟨rfl,rfl⟩
theorem aDd {t:TypeId} {x y:Operand} {q:A → H → Foot → Option R}:type_of% (gO (E:=E) (call:=call) (thaw:=thaw) (dst:=dst) (s:=s) (h:=h) (op:=.store t x y) (q:=q) ⟨rfl,rfl⟩):=gO ⟨rfl,rfl⟩
theorem ZO {x:Operand} {q:A → H → Foot → Option R}:type_of% (gO (E:=E) (call:=call) (thaw:=thaw) (dst:=dst) (s:=s) (h:=h) (op:=.assign x) (q:=q) ⟨rfl,rfl⟩):=gO ⟨rfl,rfl⟩
theorem aDX {t:TypeId} {q:A → H → Foot → Option R}:type_of% (gO (E:=E) (call:=call) (thaw:=thaw) (dst:=dst) (s:=s) (h:=h) (op:=.alloc t) (q:=q) ⟨rfl,rfl⟩):=gO ⟨rfl,rfl⟩
theorem aIB {t:TypeId} {x:Operand} {q:A → H → Foot → Option R}:type_of% (gO (E:=E) (call:=call) (thaw:=thaw) (dst:=dst) (s:=s) (h:=h) (op:=.box t x) (q:=q) ⟨rfl,rfl⟩):=gO ⟨rfl,rfl⟩
theorem MS {t:TypeId} {n:Nat} {ps:List (Nat × Operand)} {q:A → H → Foot → Option R}:type_of% (gO (E:=E) (call:=call) (thaw:=thaw) (dst:=dst) (s:=s) (h:=h) (op:=.buildSlice t n ps.toArray) (q:=q) ⟨rfl,rfl⟩):=gO ⟨rfl,rfl⟩
theorem aFF {t u:TypeId} {x:Operand} {q:A → H → Foot → Option R}:type_of% (gO (E:=E) (call:=call) (thaw:=thaw) (dst:=dst) (s:=s) (h:=h) (op:=.convert t u x) (q:=q) ⟨rfl,rfl⟩):=gO ⟨rfl,rfl⟩
theorem O6 {t:TypeId} {x y:Operand} {q:A → H → Foot → Option R}:type_of% (gO (E:=E) (call:=call) (thaw:=thaw) (dst:=dst) (s:=s) (h:=h) (op:=.makeSlice t x y) (q:=q) ⟨rfl,rfl⟩):=gO ⟨rfl,rfl⟩
theorem aCR {t:TypeId} {x:Operand} {lo hi mx:Option Operand} {q:A → H → Foot → Option R}:kOpD E call thaw dst (.slice t x lo hi mx) s h q = kv s x fun b => kOp E call thaw dst (.slice t x lo hi mx) s h fun a _ => q a h { ids:=idsA b,ro:=true }:=(F0 ⟨rfl,rfl,rfl⟩).trans (LZ rfl)
theorem PQ {t:TypeId} {x y:Operand} {q:A → H → Foot → Option R}:kOpD E call thaw dst (.indexAddr t x y) s h q = kv s x fun b => kOp E call thaw dst (.indexAddr t x y) s h fun a _ => q a h { ids:=idsA b,ro:=true }:=(F0 ⟨rfl,rfl,rfl⟩).trans (LZ rfl)
theorem aAd {args tys:Array _} {q:A → H → Foot → Option R}:type_of% (gO (E:=E) (call:=call) (thaw:=thaw) (dst:=dst) (s:=s) (h:=h) (op:=.call ⟨.builtin .append,args,tys⟩) (q:=q) ⟨rfl,rfl⟩):=gO ⟨rfl,rfl⟩
theorem aJk {x:Operand} {xs:List Operand} {tys:Array _} {q:A → H → Foot → Option R}:kOpD E call thaw dst (.call ⟨.builtin .len,(x :: xs).toArray,tys⟩) s h q = kv s x fun b => kOp E call thaw dst (.call ⟨.builtin .len,(x :: xs).toArray,tys⟩) s h fun a _ => q a h { ids:=idsA b,ro:=true }:=(F0 ⟨rfl,rfl,rfl⟩).trans (LZ rfl)
theorem aFf {x:Operand} {q:A → H → Foot → Option R}:type_of% (eD (E:=E) (call:=call) (thaw:=thaw) (dst:=dst) (s:=s) (h:=h) (op:=.move x) (q:=q) ⟨rfl,rfl⟩):=eD ⟨rfl,rfl⟩
theorem aFu {c x y:Operand} {q:A → H → Foot → Option R}:type_of% (eD (E:=E) (call:=call) (thaw:=thaw) (dst:=dst) (s:=s) (h:=h) (op:=.pick c x y) (q:=q) ⟨rfl,rfl⟩):=eD ⟨rfl,rfl⟩
theorem TQ {x:Operand} {q:A → H → Foot → Option R}:type_of% (eD (E:=E) (call:=call) (thaw:=thaw) (dst:=dst) (s:=s) (h:=h) (op:=.nilCheck x) (q:=q) ⟨rfl,rfl⟩):=eD ⟨rfl,rfl⟩
theorem aIm {op:BinOp} {t:TypeId} {x y:Operand} {t2:TypeId} {q:A → H → Foot → Option R}:type_of% (eD (E:=E) (call:=call) (thaw:=thaw) (dst:=dst) (s:=s) (h:=h) (op:=.binOp op t x y t2) (q:=q) ⟨rfl,rfl⟩):=eD ⟨rfl,rfl⟩
theorem aK4 {op:UnOp} {t:TypeId} {x:Operand} {q:A → H → Foot → Option R}:type_of% (eD (E:=E) (call:=call) (thaw:=thaw) (dst:=dst) (s:=s) (h:=h) (op:=.unOp op t x) (q:=q) ⟨rfl,rfl⟩):=eD ⟨rfl,rfl⟩
theorem TJ {fn:Fn} {first cap:Array Operand} {q:A → H → Foot → Option R}:type_of% (eD (E:=E) (call:=call) (thaw:=thaw) (dst:=dst) (s:=s) (h:=h) (op:=.makeFunc fn first cap) (q:=q) ⟨rfl,rfl⟩):=eD ⟨rfl,rfl⟩
theorem PJ {t:TypeId} {x:Operand} {f:Nat} {q:A → H → Foot → Option R}:type_of% (eD (E:=E) (call:=call) (thaw:=thaw) (dst:=dst) (s:=s) (h:=h) (op:=.fieldAddr t x f) (q:=q) ⟨rfl,rfl⟩):=eD ⟨rfl,rfl⟩
theorem aB5 {t:TypeId} {x:Operand} {f:Nat} {q:A → H → Foot → Option R}:type_of% (eD (E:=E) (call:=call) (thaw:=thaw) (dst:=dst) (s:=s) (h:=h) (op:=.field t x f) (q:=q) ⟨rfl,rfl⟩):=eD ⟨rfl,rfl⟩
theorem aBW {t:TypeId} {x y:Operand} {q:A → H → Foot → Option R}:type_of% (eD (E:=E) (call:=call) (thaw:=thaw) (dst:=dst) (s:=s) (h:=h) (op:=.index t x y) (q:=q) ⟨rfl,rfl⟩):=eD ⟨rfl,rfl⟩
theorem UO {x:Operand} {i:Nat} {q:A → H → Foot → Option R}:type_of% (eD (E:=E) (call:=call) (thaw:=thaw) (dst:=dst) (s:=s) (h:=h) (op:=.extract x i) (q:=q) ⟨rfl,rfl⟩):=eD ⟨rfl,rfl⟩
theorem aDy {t:TypeId} {ps:Array (Nat × Operand)} {q:A → H → Foot → Option R}:type_of% (eD (E:=E) (call:=call) (thaw:=thaw) (dst:=dst) (s:=s) (h:=h) (op:=.build t ps) (q:=q) ⟨rfl,rfl⟩):=eD ⟨rfl,rfl⟩
def aHm (a b:Foot):Bool:=(!a.ro && (!b.ids.isEmpty && a.wr.any b.ids.contains)) || (!b.ro && (!a.ids.isEmpty && b.wr.any a.ids.contains))
theorem aPW {l:List Nat}:l.any (([]:List Nat)).contains = false:=by
 induction l with
 | nil => rfl
 | cons a l ih => simp [ih]
theorem aGF (a b:Foot):aHm a b = oO a b:=by
 obtain ⟨ia,ra,wa⟩:=a
 obtain ⟨ib,rb,wb⟩:=b
 unfold aHm oO
 cases ia <;> cases ib <;> simp
def iM (ops:List Oper) (cs:List Foot):Bool :=
 let b:=IQ ops []
 (List.range cs.length).all fun j => (List.range j).all fun i => (b.getD j 0).testBit i || !aHm (cs.getD i {}) (cs.getD j {})
theorem aMp {src:List Oper} {cs:List Foot} (h:sE src cs = true):iM src cs = true:=by
 unfold iM
 simp only [aGF]
 exact h
theorem aDg {src:List Oper} {cs:List Foot} {x:Option R} (hc:Shut (iM src cs = true)):(if sE src cs = true then x else none) = x:=if_pos (by
 have:=hc.it
 unfold iM at this
 simp only [aGF] at this
 exact this)
theorem aIy {q:List A → H → Option R}:kOps E call thaw [] s h q = q s h:=rfl
theorem aFY {op:Op} {g:Option (Option Tmp × Bool)} {os:List SO} {q:List A → H → Option R}:kOps E call thaw (⟨dst,op,g⟩ :: os) s h q = x7 g s
  (fun s => kOp E call thaw dst op s h fun a h' => match box (aPut s dst a) with | .no => none | .mk s' => kOps E call thaw os s' h' q)
  (fun s => match box (aPut s dst (.d .undef)) with | .no => none | .mk s' => kOps E call thaw os s' h q):=rfl
theorem aGh {cs:List Foot} {q:List A → H → List Foot → Option R}:yQ E call thaw [] s h cs q = q s h cs:=rfl
theorem aC0 {op:Op} {g:Option (Option Tmp × Bool)} {os:List SO} {cs:List Foot} {q:List A → H → List Foot → Option R}:yQ E call thaw (⟨dst,op,g⟩ :: os) s h cs q = x7 g s
  (fun s => kOpD E call thaw dst op s h fun a h' c => match box (aPut s dst a) with | .no => none | .mk s' => yQ E call thaw os s' h' (cs ++ [c]) q)
  (fun s => match box (aPut s dst (.d .undef)) with | .no => none | .mk s' => yQ E call thaw os s' h (cs ++ [{}]) q):=rfl
section
variable {L nf:Nat} {live:List Bool} {lp:Nat → Code} {q:Exit → List A → H → Option R}
theorem aCd:aM E call L nf thaw live lp .skip s h q = q .normal s h:=rfl
theorem aFa {l:List SO}:aM E call L nf thaw live lp (.ops l) s h q = kOps E call thaw l s h fun s h => q .normal s h:=rfl
theorem aAb {l:List SO} {src:Array Oper}:aM E call L nf thaw live lp (.drawn l src) s h q = yQ E call thaw l s h [] fun s h cs => if sE src.toList cs = true then q .normal s h else none:=rfl
theorem aGe {a b:SC}:aM E call L nf thaw live lp (.seq a b) s h q = aM E call L nf thaw live lp a s h fun e s h => match e with
  | .normal => aM E call L nf thaw live lp b s h q
  | e => q e s h:=rfl
theorem aCv {c:Operand} {x y:SC}:aM E call L nf thaw live lp (.cond c x y) s h q = kv s c fun a => match a with
  | .d (.bool b) => if b = true then aM E call L nf thaw live lp x s h q else aM E call L nf thaw live lp y s h q
  | _ => none:=rfl
theorem aAK {id:Nat} {c:SC}:aM E call L nf thaw live lp (.block id c) s h q = aM E call L nf thaw live lp c s h fun e s h => match e with
  | .exit i => if i = id then q .normal s h else q (.exit i) s h
  | e => q e s h:=rfl
theorem aCl {i:Nat}:aM E call L nf thaw live lp (.loop i) s h q = match box (rC live s) with
  | .no => none
  | .mk m => match box (gc nf m s h) with
   | .mk (s',h') => aO E call L nf thaw live (lp i) m L s' h' q
   | .no => none:=rfl
theorem aDU {id:Nat}:aM E call L nf thaw live lp (.exit id) s h q = q (.exit id) s h:=rfl
theorem aFW:aM E call L nf thaw live lp .ret s h q = q .ret s h:=rfl
theorem UV {c:Code} {m:List Bool} {n:Nat}:cB E call L nf thaw live c m n q .normal s h = match box (gc nf m s h) with
  | .mk (s',h') => aO E call L nf thaw live c m n s' h' q
  | .no => none:=rfl
theorem aCq {c:Code} {m:List Bool} {n i:Nat}:cB E call L nf thaw live c m n q (.exit i) s h = match box (gc nf m s h) with
  | .mk (s',h') => q (.exit i) s' h'
  | .no => none:=rfl
theorem aGz {c:Code} {m:List Bool} {n:Nat}:cB E call L nf thaw live c m n q .ret s h = match box (gc nf m s h) with
  | .mk (s',h') => q .ret s' h'
  | .no => none:=rfl
end
def aL (E:Env) (call:a7) (h:H) (f:FuncId) (args:List A) (k:A → H → Option R):Option R :=
 match dT call E.hint (pack h (aD aE h (idsL args) [])) f (aF (aJ (aD aE h (idsL args) [])) args) with
 | some (a,h1) =>
  if (aD aE h (idsL args) []).length ≤ h1.length ∧ closed h (aD aE h (idsL args) []) (idsL args) = true then
   k (mapA (back (aD aE h (idsL args) []) h.length h1.length) a) (bP (back (aD aE h (idsL args) []) h.length h1.length) h (aD aE h (idsL args) []) h1)
  else none
 | none => none
theorem aQs {f:FuncId} {args:List Operand} {tys:Array TypeId}:kOp E call thaw dst (.call ⟨.value (.func f),args.toArray,tys⟩) s h k = kvs s args fun vs => aL E call h f vs k:=by
 unfold kOp kvs aL
 simp only [opds,cC,dH]
 cases cC s args with
 | none => rfl
 | some vs =>
  simp only [b8,if_true,lH,idsL,idsA,List.nil_append,aF,mapA,evOp,fC,jI,gK,List.append_nil]
  cases dT call E.hint (pack h (aD aE h (idsL vs) [])) f (aF (aJ (aD aE h (idsL vs) [])) vs) with
  | none => rfl
  | some r =>
   obtain ⟨a,h1⟩:=r
   by_cases c1:(aD aE h (idsL vs) []).length ≤ h1.length <;> by_cases c2:closed h (aD aE h (idsL vs) []) (idsL vs) = true <;> simp [c1,c2]
theorem aFL {f:FuncId} {args:List Operand} {tys:Array TypeId}:kOp E call thaw dst (.call ⟨.value (.func f),args.toArray,tys⟩) s h k = kvs s args fun vs => aL E call h f vs fun a h' => match box h' with | .no => none | .mk h'' => k a h'':=by
 rw [aQs]
 rfl
def BT (E:Env) (call:a7) (h:H) (f:FuncId) (caps args:List A) (k:A → H → Option R):Option R :=
 match dT call E.hint (pack h (aD aE h (idsL caps ++ idsL args) [])) f (aF (aJ (aD aE h (idsL caps ++ idsL args) [])) args ++ aF (aJ (aD aE h (idsL caps ++ idsL args) [])) caps) with
 | some (a,h1) =>
  if (aD aE h (idsL caps ++ idsL args) []).length ≤ h1.length ∧ closed h (aD aE h (idsL caps ++ idsL args) []) (idsL caps ++ idsL args) = true then
   k (mapA (back (aD aE h (idsL caps ++ idsL args) []) h.length h1.length) a) (bP (back (aD aE h (idsL caps ++ idsL args) []) h.length h1.length) h (aD aE h (idsL caps ++ idsL args) []) h1)
  else none
 | none => none
def rZ (E:Env) (call:a7) (h:H) (g:A) (args:List A) (k:A → H → Option R):Option R :=
 match g with
 | .d (.fn f caps) => aL E call h f (args ++ caps.map .d) k
 | .clo f caps => BT E call h f caps args k
 | _ => none
theorem bZ:∀ (as bs:List A),idsL (as ++ bs) = idsL as ++ idsL bs
 | [],bs => by simp [idsL]
 | a :: as,bs => by simp [idsL,bZ as bs]
theorem aIV:∀ (ds:List D),idsL (ds.map .d) = []
 | [] => by simp [idsL]
 | d :: ds => by simp [idsL,idsA,aIV ds]
theorem eM {f:Nat → Option Nat}:∀ (as bs:List A),aF f (as ++ bs) = aF f as ++ aF f bs
 | [],bs => by simp [aF]
 | a :: as,bs => by simp [aF,eM as bs]
theorem aEL {f:Nat → Option Nat}:∀ (ds:List D),aF f (ds.map .d) = ds.map .d
 | [] => by simp [aF]
 | d :: ds => by simp [aF,mapA,aEL ds]
theorem aN0 {g:A} {vs:List A} {tys:Array TypeId} {x:Operand} {args:Array Operand}:(match lH E call thaw h (gK dst (.call ⟨.value x,args,tys⟩)) (g :: vs) with
   | some (a,h',_) => k a h'
   | none => none) = rZ E call h g vs k:=by
 unfold lH
 simp only [evOp,fC,gK,aF]
 cases g with
 | d y =>
  cases y with
  | fn f caps =>
   simp only [rZ,aL,mapA,jI,idsL,idsA,List.nil_append,bZ,aIV,List.append_nil,eM,aEL]
   cases dT call E.hint (pack h (aD aE h (idsL vs) [])) f (aF (aJ (aD aE h (idsL vs) [])) vs ++ caps.map .d) with
   | none => rfl
   | some r =>
    obtain ⟨a,h1⟩:=r
    by_cases c1:(aD aE h (idsL vs) []).length ≤ h1.length <;> by_cases c2:closed h (aD aE h (idsL vs) []) (idsL vs) = true <;> simp [c1,c2]
  | _ => simp only [rZ,mapA,jI]
 | clo f caps =>
  simp only [rZ,BT,mapA,jI,idsL,idsA]
  cases dT call E.hint (pack h (aD aE h (idsL caps ++ idsL vs) [])) f (aF (aJ (aD aE h (idsL caps ++ idsL vs) [])) vs ++ aF (aJ (aD aE h (idsL caps ++ idsL vs) [])) caps) with
  | none => rfl
  | some r =>
   obtain ⟨a,h1⟩:=r
   by_cases c1:(aD aE h (idsL caps ++ idsL vs) []).length ≤ h1.length <;> by_cases c2:closed h (aD aE h (idsL caps ++ idsL vs) []) (idsL caps ++ idsL vs) = true <;> simp [c1,c2]
 | sl id gen off len =>
  simp only [rZ,mapA]
  cases aJ (aD aE h (idsL (A.sl id gen off len :: vs)) []) id <;> rfl
 | ptr id gen off =>
  simp only [rZ,mapA]
  cases aJ (aD aE h (idsL (A.ptr id gen off :: vs)) []) id <;> rfl
 | mp id =>
  simp only [rZ,mapA]
  cases aJ (aD aE h (idsL (A.mp id :: vs)) []) id <;> rfl
 | agg cs => simp only [rZ,mapA,jI]
 | tup cs => simp only [rZ,mapA,jI]
 | junk => simp only [rZ,mapA,jI]
theorem aGx {t:Nat} {args:List Operand} {tys:Array TypeId}:kOp E call thaw dst (.call ⟨.value (.tmp t),args.toArray,tys⟩) s h k = match box (s.getD t (.d .undef)) with
  | .no => none
  | .mk g => kvs s args fun vs => rZ E call h g vs k:=by
 unfold kOp kvs
 simp only [opds,cC,dH,box]
 cases cC s args with
 | none => rfl
 | some vs => simp only [b8,if_true]; exact aN0
theorem aGA {f:FuncId} {caps:List D} {vs:List A}:rZ E call h (.d (.fn f caps)) vs k = match box (vs ++ caps.map .d) with | .no => none | .mk as' => aL E call h f as' k:=rfl
theorem aBO {f:FuncId} {caps vs:List A}:rZ E call h (.clo f caps) vs k = BT E call h f caps vs k:=rfl
theorem aCe {f:FuncId} {vs:List A}:BT E call h f [] vs k = aL E call h f vs k:=by
 unfold BT aL
 simp only [idsL,List.nil_append,aF,List.append_nil]
 rfl
theorem aBw {h:H} {ids:List Nat} {h1:H} {ord:List Nat}:∀ (ord:List Nat) (h h1:H) (f:Nat → Option Nat),ord.length ≤ h1.length → (bP f h ord h1).length = h.length + (h1.length - ord.length)
 | [],h,h1,f,_ => by simp [bP]
 | i :: ord,h,[],f,hl => by simp at hl
 | i :: ord,h,o :: h1,f,hl => by
  simp only [bP,aBw (h:=h) (ids:=ids) (h1:=h1) (ord:=ord) ord _ h1 f (by simpa using hl),List.length_set,List.length_cons]
  omega
def wrC (E:Env) (f:FuncId) (ord:List Nat):List Nat:=if (E.hint f).mode == 3 then [] else ord
def NV (E:Env) (f:FuncId) (h h':H) (ord:List Nat):Option (H × Foot):=if ((E.hint f).mode == 1 && h'.length - h.length == 0) = true then some (h,{ ids:=ord,ro:=true }) else some (h',{ ids:=ord ++ List.range' h.length (h'.length - h.length),ro:=false,wr:=wrC E f ord ++ List.range' h.length (h'.length - h.length) })
theorem aLK {f:FuncId} {args:List Operand} {tys:Array TypeId} {q:A → H → Foot → Option R}:kOpD E call thaw dst (.call ⟨.value (.func f),args.toArray,tys⟩) s h q = kvs s args fun vs => match box (aD aE h (idsL vs) []) with
  | .no => none
  | .mk ord => aL E call h f vs fun a h' => if ((E.hint f).mode == 1 && h'.length - h.length == 0) = true then q a h { ids:=ord,ro:=true } else q a h' { ids:=ord ++ List.range' h.length (h'.length - h.length),ro:=false,wr:=wrC E f ord ++ List.range' h.length (h'.length - h.length) }:=by
 unfold kOpD kvs aL
 simp only [opds,cC,dH,box]
 cases cC s args with
 | none => rfl
 | some vs =>
  simp only [cU,n7,Bool.false_eq_true,if_false,lH,idsL,idsA,List.nil_append,aF,mapA,evOp,fC,jI,gK,List.append_nil,fG]
  cases dT call E.hint (pack h (aD aE h (idsL vs) [])) f (aF (aJ (aD aE h (idsL vs) [])) vs) with
  | none => rfl
  | some r =>
   obtain ⟨a,h1⟩:=r
   by_cases c1:(aD aE h (idsL vs) []).length ≤ h1.length
   ·by_cases c2:closed h (aD aE h (idsL vs) []) (idsL vs) = true
    ·have e:=aBw (h:=h) (ids:=idsL vs) (h1:=h1) (ord:=[]) (aD aE h (idsL vs) []) h h1 (back (aD aE h (idsL vs) []) h.length h1.length) c1
     have e2:(bP (back (aD aE h (idsL vs) []) h.length h1.length) h (aD aE h (idsL vs) []) h1).length - h.length = h1.length - (aD aE h (idsL vs) []).length:=by omega
     simp only [c1,c2,and_self,if_true,e2]
     first | done | rfl | (by_cases c3:((E.hint f).mode == 1 && h1.length - (aD aE h (idsL vs) []).length == 0) = true <;> simp [c3])
    ·simp only [c2,and_false,if_false,Bool.false_eq_true]
   ·simp only [c1,false_and,if_false]
theorem WH {f:FuncId} {args:List Operand} {tys:Array TypeId} {q:A → H → Foot → Option R}:kOpD E call thaw dst (.call ⟨.value (.func f),args.toArray,tys⟩) s h q = kvs s args fun vs => match box (aD aE h (idsL vs) []) with
  | .no => none
  | .mk ord => aL E call h f vs fun a h' => match box (NV E f h h' ord) with | .mk (some (h'',c)) => q a h'' c | _ => none:=by
 rw [aLK]
 congr 1
 funext vs
 simp only [box]
 congr 1
 funext a h'
 unfold NV
 by_cases hc:((E.hint f).mode == 1 && h'.length - h.length == 0) = true
 ·simp only [if_pos hc]
 ·simp only [if_neg hc]
theorem aKq {t:Nat} {args:List Operand} {tys:Array TypeId} {q:A → H → Foot → Option R} {f:FuncId} {caps:List D} (hg:Now (s.getD t (.d .undef) = .d (.fn f caps))):kOpD E call thaw dst (.call ⟨.value (.tmp t),args.toArray,tys⟩) s h q = kvs s args fun vs => match box (aD aE h (idsL vs) []) with
  | .no => none
  | .mk ord => aL E call h f (vs ++ caps.map .d) fun a h' => if ((E.hint f).mode == 1 && h'.length - h.length == 0) = true then q a h { ids:=ord,ro:=true } else q a h' { ids:=ord ++ List.range' h.length (h'.length - h.length),ro:=false,wr:=wrC E f ord ++ List.range' h.length (h'.length - h.length) }:=by
 have hg:=hg.it
 unfold kOpD kvs aL
 simp only [opds,cC,dH,box,hg]
 cases cC s args with
 | none => rfl
 | some vs =>
  simp only [cU,n7,Bool.false_eq_true,if_false,lH,idsL,idsA,List.nil_append,aF,mapA,evOp,fC,jI,gK,List.append_nil,fG,bZ,aIV,eM,aEL]
  cases dT call E.hint (pack h (aD aE h (idsL vs) [])) f (aF (aJ (aD aE h (idsL vs) [])) vs ++ caps.map .d) with
  | none => rfl
  | some r =>
   obtain ⟨a,h1⟩:=r
   by_cases c1:(aD aE h (idsL vs) []).length ≤ h1.length
   ·by_cases c2:closed h (aD aE h (idsL vs) []) (idsL vs) = true
    ·have e:=aBw (h:=h) (ids:=idsL vs) (h1:=h1) (ord:=[]) (aD aE h (idsL vs) []) h h1 (back (aD aE h (idsL vs) []) h.length h1.length) c1
     have e2:(bP (back (aD aE h (idsL vs) []) h.length h1.length) h (aD aE h (idsL vs) []) h1).length - h.length = h1.length - (aD aE h (idsL vs) []).length:=by omega
     simp only [c1,c2,and_self,if_true,e2]
     first | done | rfl | (by_cases c3:((E.hint f).mode == 1 && h1.length - (aD aE h (idsL vs) []).length == 0) = true <;> simp [c3])
    ·simp only [c2,and_false,if_false,Bool.false_eq_true]
   ·simp only [c1,false_and,if_false]
def aT4 (E:Env) (call:a7) (thaw:List Nat) (dst:Option Tmp) (op:Op) (s:List A) (h:H) (q:A → H → Foot → Option R):Option R:=kOpD E call thaw dst op s h q
theorem aCV {t:Nat} {args:List Operand} {tys:Array TypeId} {q:A → H → Foot → Option R}:kOpD E call thaw dst (.call ⟨.value (.tmp t),args.toArray,tys⟩) s h q = match box (s.getD t (.d .undef)) with
  | .mk (.d (.fn f caps)) => kvs s args fun vs => match box (aD aE h (idsL vs) []) with
   | .no => none
   | .mk ord => match box (vs ++ caps.map .d) with | .no => none | .mk as' => aL E call h f as' fun a h' => match box (NV E f h h' ord) with | .mk (some (h'',c)) => q a h'' c | _ => none
  | .mk (.clo f []) => kvs s args fun vs => match box (aD aE h (idsL vs) []) with
   | .no => none
   | .mk ord => aL E call h f vs fun a h' => match box (NV E f h h' ord) with | .mk (some (h'',c)) => q a h'' c | _ => none
  | _ => aT4 E call thaw dst (.call ⟨.value (.tmp t),args.toArray,tys⟩) s h q:=by
 have key:=fun (f:FuncId) (caps:List D) hg => aKq (E:=E) (call:=call) (thaw:=thaw) (dst:=dst) (s:=s) (h:=h) (t:=t) (args:=args) (tys:=tys) (q:=q) (f:=f) (caps:=caps) hg
 have k2:∀ f,s.getD t (.d .undef) = .clo f [] → kOpD E call thaw dst (.call ⟨.value (.tmp t),args.toArray,tys⟩) s h q = kOpD E call thaw dst (.call ⟨.value (.func f),args.toArray,tys⟩) s h q:=by
  intro f hg
  unfold kOpD kvs
  simp only [opds,cC,dH,hg]
  cases cC s args <;> rfl
 have fold:∀ (f:FuncId) (h h':H) (ord:List Nat) (a:A),(if ((E.hint f).mode == 1 && h'.length - h.length == 0) = true then q a h { ids:=ord,ro:=true } else q a h' { ids:=ord ++ List.range' h.length (h'.length - h.length),ro:=false,wr:=wrC E f ord ++ List.range' h.length (h'.length - h.length) }) = match box (NV E f h h' ord) with | .mk (some (h'',c)) => q a h'' c | _ => none:=by
  intro f h h' ord a
  unfold NV
  by_cases hc:((E.hint f).mode == 1 && h'.length - h.length == 0) = true
  ·simp only [if_pos hc,box]
  ·simp only [if_neg hc,box]
 generalize hs:s.getD t (.d .undef) = a
 cases a with
 | d x =>
  cases x with
  | fn f caps =>
   rw [key f caps ⟨hs⟩]
   simp only [fold]
   rfl
  | _ => rfl
 | clo f caps =>
  cases caps with
  | nil => rw [k2 f hs]; exact WH
  | cons c caps => rfl
 | _ => rfl
theorem RN (n:Nat) (h:H):aD n h [] [] = []:=by cases n <;> rfl
mutual
theorem vM {f:Nat → Option Nat}:∀ a:A,idsA a = [] → mapA f a = a
 | .d x,_ => by simp only [mapA]
 | .sl id gen off len,h => by simp [idsA] at h
 | .ptr id gen off,h => by simp [idsA] at h
 | .mp id,h => by simp [idsA] at h
 | .clo g caps,h => by simp only [idsA] at h; simp only [mapA]; rw [nB caps h]
 | .agg cs,h => by simp only [idsA] at h; simp only [mapA]; rw [nB cs h]
 | .tup cs,h => by simp only [idsA] at h; simp only [mapA]; rw [nB cs h]
 | .junk,_ => by simp only [mapA]
theorem nB {f:Nat → Option Nat}:∀ as:List A,idsL as = [] → aF f as = as
 | [],_ => by simp only [aF]
 | a :: as,h => by
  simp only [idsL,List.append_eq_nil_iff] at h
  simp only [aF]
  rw [vM a h.1,nB as h.2]
end
theorem aNI {a:A} (h:yG a = true):idsA a = []:=by
 cases a with
 | d x => rfl
 | agg cs =>
  simp only [yG] at h
  simp only [idsA]
  induction cs with
  | nil => rfl
  | cons c cs ih =>
   simp only [List.all_cons,Bool.and_eq_true] at h
   simp only [idsL,ih h.2,List.append_nil]
   cases c <;> first | rfl | simp [isD] at h
 | _ => simp [yG] at h
theorem B5:∀ {as:List A},as.all yG = true → idsL as = []
 | [],_ => rfl
 | a :: as,h => by
  simp only [List.all_cons,Bool.and_eq_true] at h
  simp only [idsL,aNI h.1,B5 h.2,List.append_nil]
theorem aCY {h:H}:∀ {cs:List A},cs.all isD = true → ∃ ds,frzL h cs = some (ds,h) ∧ ds.map .d = cs
 | [],_ => ⟨[],rfl,rfl⟩
 | c :: cs,hs => by
  simp only [List.all_cons,Bool.and_eq_true] at hs
  obtain ⟨ds,h1,h2⟩:=aCY (h:=h) hs.2
  cases c with
  | d x =>
   refine ⟨x :: ds,?_,by simp [h2]⟩
   unfold frzL at h1 ⊢
   simp only [i7]
   have:frz deep h (.d x) = some (x,h):=rfl
   rw [this]
   simp only [h1]
  | _ => simp [isD] at hs
theorem xU {h:H}:∀ {as:List A},as.all yG = true → iV h as = some (as,h)
 | [],_ => rfl
 | a :: as,hs => by
  simp only [List.all_cons,Bool.and_eq_true] at hs
  have ha:frzA h a = some (a,h):=by
   cases a with
   | d x => rfl
   | agg cs =>
    obtain ⟨ds,h1,h2⟩:=aCY (h:=h) (cs:=cs) (by simpa only [yG] using hs.1)
    simp only [frzA,h1,h2]
   | _ => simp [yG] at hs
  simp only [iV,ha,xU hs.2]
theorem aJV {r:A} (h:mV r = true):pV r = true ∧ mapA (fun k => back [] 0 0 k) r = r:=by
 cases r with
 | d x => cases x <;> first | exact ⟨rfl,rfl⟩ | simp [mV] at h
 | tup vs =>
  simp only [mV] at h
  have key:o9 vs = true ∧ aF (fun k => back [] 0 0 k) vs = vs:=by
   induction vs with
   | nil => exact ⟨rfl,by simp only [aF]⟩
   | cons v vs ih =>
    simp only [List.all_cons,Bool.and_eq_true] at h
    obtain ⟨i1,i2⟩:=ih h.2
    cases v with
    | d x => cases x <;> first | (exfalso; simp at h; done) | (refine ⟨by simp only [o9,pV,AP,i1,Bool.and_self],by simp only [aF,mapA,i2]⟩)
    | _ => simp at h
  exact ⟨by simp only [pV]; exact key.1,by simp only [mapA,key.2]⟩
 | _ => simp [mV] at h
theorem aJH {f:FuncId} {args:List A} {r:A} (hs:args.all yG = true) (hc:call f args [] = some (r,[])) (hp:mV r = true ∨ ((E.hint f).mode == 1 || (E.hint f).mode == 3) = false):dT call E.hint [] f args = some (r,[]):=by
 unfold dT
 split
 ·exact hc
 ·rename_i hm
  rw [xU hs]
  simp only [hc]
  rcases hp with hp | hp
  ·rw [hp]; rfl
  ·rw [hm] at hp; cases hp
 ·rename_i hm
  rw [xU hs]
  simp only [hc]
  rcases hp with hp | hp
  ·obtain ⟨h1,h2⟩:=aJV hp
   rw [h1]
   simp only [List.all_nil,Bool.and_self,if_true,List.length_nil,List.map_nil,List.append_nil]
   exact congrArg (fun x => some (x,([]:H))) h2
  ·rw [hm] at hp; cases hp
 ·rw [xU hs]
  simp only [hc]
theorem aR {f:FuncId} {args:List A} {r:A} (hs:args.all yG = true) (hc:call f args [] = some (r,[])) (hr:idsA r = []) (hp:mV r = true ∨ ((E.hint f).mode == 1 || (E.hint f).mode == 3) = false):aL E call h f args k = k r h:=by
 unfold aL
 rw [B5 hs,RN,nB _ (B5 hs)]
 have:pack h [] = []:=rfl
 rw [this,aJH hs hc hp]
 simp only [List.length_nil,Nat.le_refl,true_and,closed,List.all_nil,Bool.and_self,if_true,vM r hr,bP,List.map_nil,List.append_nil]
def bK (call:a7) (f:FuncId) (args:List A) (k:A → Option R):Option R :=
 match call f args [] with
 | some (r,[]) => if mV r = true then k r else none
 | _ => none
theorem fM {f:FuncId} {args:List A} {r:A} {k:A → Option R} (hc:call f args [] = some (r,[])) (hp:mV r = true):bK call f args k = k r:=by
 unfold bK
 rw [hc]
 simp only [hp,if_true]
theorem aNd {r:A} (h:mV r = true):idsA r = []:=by
 cases r with
 | d x => rfl
 | tup vs =>
  simp only [mV] at h
  simp only [idsA]
  induction vs with
  | nil => rfl
  | cons v vs ih =>
   simp only [List.all_cons,Bool.and_eq_true] at h
   simp only [idsL,ih h.2,List.append_nil]
   cases v with
   | d x => rfl
   | _ => simp at h
 | _ => simp [mV] at h
theorem aF1 (ord:List Nat) (n:Nat):back ord n ord.length = fun k => ord[k]?:=by
 funext k
 unfold back
 split
 ·rfl
 ·rename_i h
  rw [List.getElem?_eq_none (by omega)]
theorem aHF {h:H} {ord ids:List Nat} (hc:closed h ord ids = true) (hn:ord.Nodup) (hl:∀ i ∈ ord,i < h.length):bP (fun (k:Nat) => ord[k]?) h ord (pack h ord) = h:=by
 apply List.ext_getElem?
 intro id
 rw [E1 _ ord h _ id hn hl (by simp [pack])]
 cases hp:aJ ord id with
 | none =>
  simp only []
  split
  ·rfl
  ·rename_i hge
   rw [List.getElem?_eq_none (by simp [pack]),List.getElem?_eq_none (by omega)]
   rfl
 | some k =>
  simp only []
  have hm:=M0 hp
  obtain ⟨o,ho⟩:∃ o,h[id]? = some o:=⟨h[id]'(hl id hm),List.getElem?_eq_getElem _⟩
  rw [lT (bG hp) ho,ho,Option.map_some,W9 hc hm ho]
theorem aJy {f:FuncId} {args:List A} (hm:(E.hint f).mode = 1):aL E call h f args k = match box (aD aE h (idsL args) []) with
  | .no => none
  | .mk ord => match box (iV (pack h ord) (aF (aJ ord) args)) with
   | .mk (some (fs,_)) => if closed h ord (idsL args) = true then bK call f fs fun r => k r h else none
   | _ => none:=by
 unfold aL dT
 rw [hm]
 simp only [box]
 cases hf:iV (pack h (aD aE h (idsL args) [])) (aF (aJ (aD aE h (idsL args) [])) args) with
 | none => rfl
 | some r =>
  obtain ⟨fs,h1⟩:=r
  simp only [bK]
  cases hc:call f fs [] with
  | none => simp
  | some r =>
   obtain ⟨a,h2⟩:=r
   cases h2 with
   | cons o h2 => simp
   | nil =>
    simp only []
    by_cases hp:mV a = true
    ·simp only [hp,if_true]
     have hlen:(pack h (aD aE h (idsL args) [])).length = (aD aE h (idsL args) []).length:=by simp [pack]
     simp only [hlen,Nat.le_refl,true_and]
     by_cases hcl:closed h (aD aE h (idsL args) []) (idsL args) = true
     ·simp only [hcl,if_true,aF1,vM a (aNd hp)]
      rw [aHF hcl (c8 aE h (idsL args) [] (by simp)) (oA aE h (idsL args) [] (by simp))]
     ·simp only [hcl,Bool.false_eq_true,if_false]
    ·simp only [hp,Bool.false_eq_true,if_false]
     simp
def dA (h:H) (args:List A):Option (List A):=match box (aD aE h (idsL args) []) with
 | .no => none
 | .mk ord => match box (iV (pack h ord) (aF (aJ ord) args)) with
  | .mk (some (fs,_)) => if closed h ord (idsL args) = true then some fs else none
  | _ => none
theorem aU {f:FuncId} {args:List A} (hm:(E.hint f).mode = 1):aL E call h f args k = match box (dA h args) with
  | .mk (some fs) => bK call f fs fun r => k r h
  | _ => none:=by
 rw [aJy hm]
 unfold dA
 simp only [box]
 cases iV (pack h (aD aE h (idsL args) [])) (aF (aJ (aD aE h (idsL args) [])) args) with
 | none => rfl
 | some r =>
  obtain ⟨fs,h1⟩:=r
  simp only []
  by_cases hc:closed h (aD aE h (idsL args) []) (idsL args) = true
  ·simp only [if_pos hc]
  ·simp only [if_neg hc]
theorem aKC {nf:Nat} {h:H} {ord:List Nat} {s:List A}:trim nf h ord s = match box (pack h ord) with
  | .mk p => (aS nf p (aF (aJ ord) s),dY nf p)
  | .no => ([],[]):=rfl
theorem aRI {nf:Nat} {m:List Bool} {s:List A} {h:H}:gc nf m s h = match box (tidy m s) with
  | .mk s1 => match box (fE nf h (idsL s1)) with
   | .mk ord => trim nf h ord s1
   | .no => ([],[])
  | .no => ([],[]):=rfl
theorem aKG {P:Program} {nf:Nat} {exp:Bool} {rs:List ResultVar} {e:Exit} {s:List A} {h:H}:kFin P nf exp rs e s h =
  if jK e then (match pF P s h rs with
   | some rs => match rD nf exp h rs with
    | some (xs,h2) => match box (fE nf h2 (idsL xs)) with
     | .mk ord => match box (trim nf h2 ord xs) with
      | .mk r => some (tupA r.1,r.2)
      | .no => none
     | .no => none
    | none => none
   | none => none) else none:=rfl
theorem wG (nf:Nat) (h:H) (ids:List Nat):fE nf h ids = aD 1099511627776 h (fQ (h.take nf) ++ ids) (List.range nf):=rfl
theorem rng0:List.range 0 = []:=rfl
theorem rng1:List.range 1 = [0]:=rfl
theorem rng2:List.range 2 = [0,1]:=rfl
theorem rng3:List.range 3 = [0,1,2]:=rfl
theorem AQ (h:H) (ids:List Nat):fE 0 h ids = aD 1099511627776 h ids []:=by
 unfold fE
 simp only [List.take_zero,fQ,List.nil_append,List.range_zero]
 rfl
theorem zO (n:Nat) (h:H) (acc:List Nat):aD n h [] acc = acc:=by cases n <;> rfl
theorem sM (n:Nat) (h:H) (i:Nat) (todo acc:List Nat):aD (n + 1) h (i :: todo) acc = if acc.contains i = true then aD n h todo acc
  else match h.getD i .void with
   | .box cs => aD n h (todo ++ idsL cs) (acc ++ [i])
   | .vec cs _ _ => aD n h (todo ++ idsL cs) (acc ++ [i])
   | .void => aD n h todo acc
   | _ => aD n h todo (acc ++ [i]):=by
 simp only [aD,List.getD_eq_getElem?_getD]
 split
 ·rfl
 ·cases h[i]? with
  | none => rfl
  | some o => cases o <;> rfl
theorem aIL {α:Type} {c:Prop} [Decidable c] {a:α} (hc:c):(if c then some a else none) = some a:=if_pos hc
def iAnd (k:IntKind) (a b:Int):Int:=k.wrap (BitVec.ofInt k.bits a &&& BitVec.ofInt k.bits b).toNat
def iOr (k:IntKind) (a b:Int):Int:=k.wrap (BitVec.ofInt k.bits a ||| BitVec.ofInt k.bits b).toNat
def iXor (k:IntKind) (a b:Int):Int:=k.wrap (BitVec.ofInt k.bits a ^^^ BitVec.ofInt k.bits b).toNat
def aSD (k:IntKind) (a b:Int):Int:=k.wrap (BitVec.ofInt k.bits a &&& ~~~BitVec.ofInt k.bits b).toNat
section
variable {t:TypeId} {K:IntKind} {a b:Int}
theorem aFV:c9 E .add t h (.d (.int K a)) (.d (.int K b)) = some (.d (.int K (K.wrap (a + b))),h):=by simp [c9,aBin]; rfl
theorem aGD:c9 E .sub t h (.d (.int K a)) (.d (.int K b)) = some (.d (.int K (K.wrap (a - b))),h):=by simp [c9,aBin]; rfl
theorem aF4:c9 E .mul t h (.d (.int K a)) (.d (.int K b)) = some (.d (.int K (K.wrap (a * b))),h):=by simp [c9,aBin]; rfl
theorem aFr:c9 E .and t h (.d (.int K a)) (.d (.int K b)) = some (.d (.int K (iAnd K a b)),h):=by simp [c9,aBin]; rfl
theorem aIR:c9 E .or t h (.d (.int K a)) (.d (.int K b)) = some (.d (.int K (iOr K a b)),h):=by simp [c9,aBin]; rfl
theorem aE5:c9 E .xor t h (.d (.int K a)) (.d (.int K b)) = some (.d (.int K (iXor K a b)),h):=by simp [c9,aBin]; rfl
theorem V9:c9 E .andNot t h (.d (.int K a)) (.d (.int K b)) = some (.d (.int K (aSD K a b)),h):=by simp [c9,aBin]; rfl
theorem aGk:c9 E .lss t h (.d (.int K a)) (.d (.int K b)) = some (.d (.bool (decide (a < b))),h):=by simp [c9,aBin]
theorem aGl:c9 E .leq t h (.d (.int K a)) (.d (.int K b)) = some (.d (.bool (decide (a ≤ b))),h):=by simp [c9,aBin]
theorem aE9:c9 E .gtr t h (.d (.int K a)) (.d (.int K b)) = some (.d (.bool (decide (b < a))),h):=by simp [c9,aBin]
theorem aFT:c9 E .geq t h (.d (.int K a)) (.d (.int K b)) = some (.d (.bool (decide (b ≤ a))),h):=by simp [c9,aBin]
theorem aGa:c9 E .eql t h (.d (.int K a)) (.d (.int K b)) = some (.d (.bool (decide (a = b))),h):=by simp [c9,aBin]; rfl
theorem aGH:c9 E .neq t h (.d (.int K a)) (.d (.int K b)) = some (.d (.bool (!decide (a = b))),h):=by simp [c9,aBin]; rfl
theorem aFq (hb:b ≠ 0):c9 E .quo t h (.d (.int K a)) (.d (.int K b)) = some (.d (.int K (K.wrap (a.tdiv b))),h):=by simp [c9,aBin,hb]
theorem aFH (hb:b ≠ 0):c9 E .rem t h (.d (.int K a)) (.d (.int K b)) = some (.d (.int K (a.tmod b)),h):=by simp [c9,aBin,hb]
theorem aF3 {K2:IntKind} (hb:0 ≤ b):c9 E .shl t h (.d (.int K a)) (.d (.int K2 b)) = some (.d (.int K (K.wrap (a * 2 ^ (min b.toNat K.bits)))),h):=by
 have:¬ b < 0:=by omega
 simp [c9,aBin,Op.shift,this]; rfl
theorem aGq {K2:IntKind} (hb:0 ≤ b):c9 E .shr t h (.d (.int K a)) (.d (.int K2 b)) = some (.d (.int K (a.fdiv (2 ^ (min b.toNat K.bits)))),h):=by
 have:¬ b < 0:=by omega
 simp [c9,aBin,Op.shift,this]; rfl
theorem aKO {b:Bool}:aUn .not (.d (.bool b)) = some (.d (.bool (!b))):=rfl
end
end
theorem WD:type_of% (AI @aCd (AI @aFa (AI @aAb (AI @aGe (AI @aCv (AI @aAK (AI @aCl (AI @aDU (AI @aFW (AI @aIy (AI @aFY (AI @aGh (AI @aC0 (AI @aAu (AI @aAa (AI @aOl (AI @aNw (AI @aK9 (AI @aNe (AI @aK7 (AI @aK0 (AI @aKU (AI @aMH (AI @aKR (AI @aIe (AI @aI5 (AI @QG (AI @KL (AI @L9 (AI @aKT (AI @aNu (AI @aIo (AI @WB (AI @aH5 (AI @aH4 (AI @aGC (AI @aFl (AI @aKE (AI @aFt (AI @P6 (AI @UT (AI @TM (AI @aAD (AI @aAE (AI @aAZ (AI @ZK (AI @S4 (AI @aFS (AI @SH (AI @aFQ (AI @aA1 (AI @aAV (AI @aFL (AI @aKG (AI @UV (AI @aCq (AI @aGz (AI @ZN (AI @aBN @SG))))))))))))))))))))))))))))))))))))))))))))))))))))))))))) :=
 ⟨@aCd,@aFa,@aAb,@aGe,@aCv,@aAK,@aCl,@aDU,@aFW,@aIy,@aFY,@aGh,@aC0,@aAu,@aAa,@aOl,@aNw,@aK9,@aNe,@aK7,@aK0,@aKU,@aMH,@aKR,@aIe,@aI5,@QG,@KL,@L9,@aKT,@aNu,@aIo,@WB,@aH5,@aH4,@aGC,@aFl,@aKE,@aFt,@P6,@UT,@TM,@aAD,@aAE,@aAZ,@ZK,@S4,@aFS,@SH,@aFQ,@aA1,@aAV,@aFL,@aKG,@UV,@aCq,@aGz,@ZN,@aBN,@SG⟩
theorem WDD:type_of% (AI @aE0 (AI @aDd (AI @ZO (AI @aDX (AI @aIB (AI @MS (AI @aFF (AI @O6 (AI @aCR (AI @PQ (AI @aAd (AI @aJk (AI @aFf (AI @aFu (AI @TQ (AI @aIm (AI @aK4 (AI @TJ (AI @PJ (AI @aB5 (AI @aBW (AI @UO (AI @aDy (AI @WH (AI @aGx (AI @aGA (AI @aBO (AI @aCe (AI @Z7 (AI @V4 @QC)))))))))))))))))))))))))))))) :=
 ⟨@aE0,@aDd,@ZO,@aDX,@aIB,@MS,@aFF,@O6,@aCR,@PQ,@aAd,@aJk,@aFf,@aFu,@TQ,@aIm,@aK4,@TJ,@PJ,@aB5,@aBW,@UO,@aDy,@WH,@aGx,@aGA,@aBO,@aCe,@Z7,@V4,@QC⟩
theorem WK0:type_of% (AI @aMi (AI @aKO (AI @aFV (AI @aGD (AI @aF4 (AI @aFr (AI @aIR (AI @aE5 (AI @V9 (AI @aFq (AI @aFH (AI @aF3 (AI @aGq (AI @aGk (AI @aGl (AI @aE9 (AI @aFT (AI @aGa (AI @aGH (AI @ne_eq.{0} (AI @not_true_eq_false (AI @if_false.{0} (AI @if_true.{0} (AI @List.getD_nil.{0} (AI @List.getD_cons_zero.{0} (AI @List.getD_cons_succ.{0} (AI @List.set_cons_zero.{0} (AI @List.set_cons_succ.{0} (AI @aRI @aKC))))))))))))))))))))))))))))) :=
 ⟨@aMi,@aKO,@aFV,@aGD,@aF4,@aFr,@aIR,@aE5,@V9,@aFq,@aFH,@aF3,@aGq,@aGk,@aGl,@aE9,@aFT,@aGa,@aGH,@ne_eq.{0},@not_true_eq_false,@if_false.{0},@if_true.{0},@List.getD_nil.{0},@List.getD_cons_zero.{0},@List.getD_cons_succ.{0},@List.set_cons_zero.{0},@List.set_cons_succ.{0},@aRI,@aKC⟩
theorem WK1:type_of% (AI @Bool.not_true (AI @Bool.not_false (AI @Bool.true_eq_false (AI @Bool.false_eq_true (AI @decide_eq_true_eq (AI @decide_eq_false_iff_not (AI @Option.map_some.{0,0} (AI @Option.bind_some.{0,0} (AI @List.append_nil.{0} (AI @List.nil_append.{0} (AI @List.map_nil.{0,0} (AI @decide_true (AI @decide_false (AI @Bool.not_eq_false' (AI @Bool.not_eq_true' (AI @aIL (AI @Nat.mul_one (AI @Nat.one_mul (AI @Nat.zero_add (AI @Nat.add_zero (AI @List.getElem?_cons_zero.{0} (AI @List.getElem?_cons_succ.{0} (AI @List.length_cons.{0} (AI @List.length_nil.{0} (AI @List.drop_zero.{0} (AI @List.all_cons.{0} (AI @List.all_nil.{0} (AI @Bool.and_self (AI @Bool.and_true @Bool.true_and))))))))))))))))))))))))))))) :=
 ⟨@Bool.not_true,@Bool.not_false,@Bool.true_eq_false,@Bool.false_eq_true,@decide_eq_true_eq,@decide_eq_false_iff_not,@Option.map_some.{0,0},@Option.bind_some.{0,0},@List.append_nil.{0},@List.nil_append.{0},@List.map_nil.{0,0},@decide_true,@decide_false,@Bool.not_eq_false',@Bool.not_eq_true',@aIL,@Nat.mul_one,@Nat.one_mul,@Nat.zero_add,@Nat.add_zero,@List.getElem?_cons_zero.{0},@List.getElem?_cons_succ.{0},@List.length_cons.{0},@List.length_nil.{0},@List.drop_zero.{0},@List.all_cons.{0},@List.all_nil.{0},@Bool.and_self,@Bool.and_true,@Bool.true_and⟩
theorem WK2:type_of% (AI @Bool.false_and (AI @Bool.and_false (AI @List.map_cons.{0,0} (AI @List.zip_cons_cons.{0,0} (AI @List.zip_nil_left.{0,0} (AI @List.flatten_cons.{0} (AI @List.flatten_nil.{0} (AI @List.take_zero.{0} (AI @List.take_nil.{0} (AI @List.drop_nil.{0} (AI @List.cons_append.{0} (AI @Bool.or_self (AI @Bool.or_false (AI @Bool.false_or (AI @Nat.not_lt_zero (AI @and_self (AI @and_true (AI @true_and (AI @Bool.or_true (AI @Bool.true_or (AI @Option.map_none.{0,0} (AI @List.drop_succ_cons.{0} (AI @List.take_succ_cons.{0} (AI @Nat.lt_irrefl (AI @List.head?_cons.{0} (AI @Option.any_some.{0} (AI @List.contains_cons.{0} (AI @List.contains_nil.{0} (AI @AQ @wG))))))))))))))))))))))))))))) :=
 ⟨@Bool.false_and,@Bool.and_false,@List.map_cons.{0,0},@List.zip_cons_cons.{0,0},@List.zip_nil_left.{0,0},@List.flatten_cons.{0},@List.flatten_nil.{0},@List.take_zero.{0},@List.take_nil.{0},@List.drop_nil.{0},@List.cons_append.{0},@Bool.or_self,@Bool.or_false,@Bool.false_or,@Nat.not_lt_zero,@and_self,@and_true,@true_and,@Bool.or_true,@Bool.true_or,@Option.map_none.{0,0},@List.drop_succ_cons.{0},@List.take_succ_cons.{0},@Nat.lt_irrefl,@List.head?_cons.{0},@Option.any_some.{0},@List.contains_cons.{0},@List.contains_nil.{0},@AQ,@wG⟩
theorem WK3:type_of% (AI @rng0 (AI @rng1 (AI @rng2 (AI @rng3 (AI @Option.getD_none.{0} (AI @Option.isNone_none.{0} (AI @Option.isNone_some.{0} (AI @Option.isSome_none.{0} (AI @Option.isSome_some.{0} (AI @zO (AI @sM (AI @beq_self_eq_true.{0} (AI @Nat.succ_ne_self (AI @Nat.zero_ne_one (AI @Nat.one_ne_zero (AI @List.length_append.{0} (AI @false_or (AI @or_false (AI @or_true (AI @true_or (AI @List.take_length.{0} (AI @Option.toList_none.{0} @Option.toList_some.{0})))))))))))))))))))))) :=
 ⟨@rng0,@rng1,@rng2,@rng3,@Option.getD_none.{0},@Option.isNone_none.{0},@Option.isNone_some.{0},@Option.isSome_none.{0},@Option.isSome_some.{0},@zO,@sM,@beq_self_eq_true.{0},@Nat.succ_ne_self,@Nat.zero_ne_one,@Nat.one_ne_zero,@List.length_append.{0},@false_or,@or_false,@or_true,@true_or,@List.take_length.{0},@Option.toList_none.{0},@Option.toList_some.{0}⟩
theorem WK:type_of% (AI @WK0 (AI @WK1 (AI @WK2 @WK3))) :=
 ⟨@WK0,@WK1,@WK2,@WK3⟩
section
variable {E:Env} {vs:List A} {t u:TypeId} {x y:Operand}
theorem aAX:fG E (.load t x) vs = true:=rfl
theorem XJ {a b c:Option Operand}:fG E (.slice t x a b c) vs = true:=rfl
theorem aFg:fG E (.indexAddr t x y) vs = true:=rfl
theorem Z3:fG E (.convert t u x) vs = (bM E.P u).isNone:=rfl
theorem SN {a:Array Operand} {b:Array TypeId}:fG E (.call ⟨.builtin .append,a,b⟩) vs = false:=rfl
theorem aCH {a:Array Operand} {b:Array TypeId}:fG E (.call ⟨.builtin .len,a,b⟩) vs = true:=rfl
theorem aDa {a:Array Operand} {b:Array TypeId} {f:FuncId} {c:List A}:fG E (.call ⟨.value x,a,b⟩) (.clo f c :: vs) = ((E.hint f).mode == 1):=rfl
theorem aFs {a:Array Operand} {b:Array TypeId} {f:FuncId} {c:List D}:fG E (.call ⟨.value x,a,b⟩) (.d (.fn f c) :: vs) = ((E.hint f).mode == 1):=rfl
theorem aCF:fG E (.box t x) vs = false:=rfl
theorem VM:fG E (.alloc t) vs = false:=rfl
theorem S5:fG E (.assign x) vs = false:=rfl
theorem VC:fG E (.store t x y) vs = false:=rfl
theorem aFc {n:Nat} {ps:Array (Nat × Operand)}:fG E (.buildSlice t n ps) vs = false:=rfl
theorem aFD:fG E (.makeSlice t x y) vs = false:=rfl
theorem aGt:fG E (.makeMap t none) vs = false:=rfl
theorem aGf {z:Operand}:fG E (.mapUpdate t x y z) vs = false:=rfl
theorem aKF {b:Bool}:cU (.lookup t x y b) = false:=rfl
theorem aKJ:cU (.makeMap t none) = false:=rfl
theorem aKI {z:Operand}:cU (.mapUpdate t x y z) = false:=rfl
theorem aDG:opds (.alloc t) = []:=rfl
theorem aFR:cU (.load t x) = false:=rfl
theorem aDi:cU (.store t x y) = false:=rfl
theorem aAt:cU (.assign x) = false:=rfl
theorem aC4:cU (.alloc t) = false:=rfl
theorem aH7:cU (.box t x) = false:=rfl
theorem aLa {n:Nat} {ps:Array (Nat × Operand)}:cU (.buildSlice t n ps) = false:=rfl
theorem aEX:cU (.convert t u x) = false:=rfl
theorem aLe:cU (.makeSlice t x y) = false:=rfl
theorem aDY {a b c:Option Operand}:cU (.slice t x a b c) = false:=rfl
theorem aKZ:cU (.indexAddr t x y) = false:=rfl
theorem aFp {c:Call}:cU (.call c) = false:=rfl
end
theorem UNx1:type_of% (fun v0 => @jK.eq_3 (Go.Exit.exit v0) (by nofun) (by nofun)):=by intros; rfl
theorem UNx2:type_of% (fun v0 => @jK.eq_3 (Go.Exit.goto v0) (by nofun) (by nofun)):=by intros; rfl
theorem UNx3:type_of% (fun v0 => @jK.eq_3 (Go.Exit.panic v0) (by nofun) (by nofun)):=by intros; rfl
theorem UNx4:type_of% (@jK.eq_3 Go.Exit.outgrown (by nofun) (by nofun)):=(@jK.eq_3 Go.Exit.outgrown (by nofun) (by nofun))
theorem UNx5:type_of% (fun v0 v1 v2 v3 => @outA.eq_2 v0 v1 v2 (A.d v3) (by nofun)):=by intros; rfl
theorem UNx6:type_of% (fun v0 v1 v2 v3 v4 v5 v6 => @outA.eq_2 v0 v1 v2 (A.sl v3 v4 v5 v6) (by nofun)):=by intros; rfl
theorem UNx7:type_of% (fun v0 v1 v2 v3 v4 v5 => @outA.eq_2 v0 v1 v2 (A.ptr v3 v4 v5) (by nofun)):=by intros; rfl
theorem UNx8:type_of% (fun v0 v1 v2 v3 => @outA.eq_2 v0 v1 v2 (A.mp v3) (by nofun)):=by intros; rfl
theorem UNx9:type_of% (fun v0 v1 v2 v3 v4 => @outA.eq_2 v0 v1 v2 (A.clo v3 v4) (by nofun)):=by intros; rfl
theorem aRT:type_of% (fun v0 v1 v2 v3 => @outA.eq_2 v0 v1 v2 (A.tup v3) (by nofun)):=by intros; rfl
theorem aRH:type_of% (fun v0 v1 v2 => @outA.eq_2 v0 v1 v2 A.junk (by nofun)):=by intros; rfl
theorem aR1:type_of% (fun v0 v1 v2 => @outS.eq_2 v0 v1 v2 D.undef (by nofun)):=by intros; rfl
theorem aRa:type_of% (fun v0 v1 v2 v3 v4 => @outS.eq_2 v0 v1 v2 (D.int v3 v4) (by nofun)):=by intros; rfl
theorem aSu:type_of% (fun v0 v1 v2 v3 => @outS.eq_2 v0 v1 v2 (D.bool v3) (by nofun)):=by intros; rfl
theorem aRX:type_of% (fun v0 v1 v2 v3 => @outS.eq_2 v0 v1 v2 (D.str v3) (by nofun)):=by intros; rfl
theorem aR3:type_of% (fun v0 v1 v2 v3 v4 => @outS.eq_2 v0 v1 v2 (D.ivs v3 v4) (by nofun)):=by intros; rfl
theorem aR6:type_of% (fun v0 v1 v2 v3 => @outS.eq_2 v0 v1 v2 (D.iptr v3) (by nofun)):=by intros; rfl
theorem aRy:type_of% (fun v0 v1 v2 => @outS.eq_2 v0 v1 v2 D.nilp (by nofun)):=by intros; rfl
theorem aSk:type_of% (fun v0 v1 v2 v3 v4 => @outS.eq_2 v0 v1 v2 (D.fn v3 v4) (by nofun)):=by intros; rfl
theorem aRs:type_of% (fun v0 v1 v2 => @outS.eq_2 v0 v1 v2 D.nilfn (by nofun)):=by intros; rfl
theorem aSs:type_of% (fun v0 v1 v2 => @outS.eq_2 v0 v1 v2 D.nili (by nofun)):=by intros; rfl
theorem aSB:type_of% (fun v0 v1 v2 => @outS.eq_2 v0 v1 v2 D.nilm (by nofun)):=by intros; rfl
theorem aSp:type_of% (fun v0 v1 v2 v3 v4 => @outS.eq_2 v0 v1 v2 (D.ifc v3 v4) (by nofun)):=by intros; rfl
theorem aRV:type_of% (fun v0 v1 v2 v3 v4 => @outS.eq_6 v0 v1 v2 (A.clo v3 v4) (by nofun) (by nofun) (by nofun) (by nofun) (by nofun)):=by intros; rfl
theorem aRB:type_of% (fun v0 v1 v2 v3 => @outS.eq_6 v0 v1 v2 (A.agg v3) (by nofun) (by nofun) (by nofun) (by nofun) (by nofun)):=by intros; rfl
theorem aRd:type_of% (fun v0 v1 v2 v3 => @outS.eq_6 v0 v1 v2 (A.tup v3) (by nofun) (by nofun) (by nofun) (by nofun) (by nofun)):=by intros; rfl
theorem aRA:type_of% (fun v0 v1 v2 => @outS.eq_6 v0 v1 v2 A.junk (by nofun) (by nofun) (by nofun) (by nofun) (by nofun)):=by intros; rfl
theorem aRe:type_of% (fun v0 v1 => @rC.eq_4 (List.cons v0 v1) (by nofun)):=(fun v0 v1 => @rC.eq_4 (List.cons v0 v1) (by nofun))
theorem aQY:type_of% (fun v0 v1 => @eB.eq_3 (A.d (D.int v0 v1)) (by nofun) (by nofun)):=by intros; rfl
theorem aRR:type_of% (fun v0 => @eB.eq_3 (A.d (D.bool v0)) (by nofun) (by nofun)):=by intros; rfl
theorem aRw:type_of% (fun v0 => @eB.eq_3 (A.d (D.str v0)) (by nofun) (by nofun)):=by intros; rfl
theorem aSd:type_of% (fun v0 v1 => @eB.eq_3 (A.d (D.ivs v0 v1)) (by nofun) (by nofun)):=by intros; rfl
theorem aRU:type_of% (@eB.eq_3 (A.d D.nils) (by nofun) (by nofun)):=(@eB.eq_3 (A.d D.nils) (by nofun) (by nofun))
theorem aSe:type_of% (fun v0 => @eB.eq_3 (A.d (D.iptr v0)) (by nofun) (by nofun)):=by intros; rfl
theorem aQ6:type_of% (@eB.eq_3 (A.d D.nilp) (by nofun) (by nofun)):=(@eB.eq_3 (A.d D.nilp) (by nofun) (by nofun))
theorem aRO:type_of% (fun v0 v1 => @eB.eq_3 (A.d (D.fn v0 v1)) (by nofun) (by nofun)):=by intros; rfl
theorem aQZ:type_of% (@eB.eq_3 (A.d D.nilfn) (by nofun) (by nofun)):=(@eB.eq_3 (A.d D.nilfn) (by nofun) (by nofun))
theorem aRj:type_of% (@eB.eq_3 (A.d D.nili) (by nofun) (by nofun)):=(@eB.eq_3 (A.d D.nili) (by nofun) (by nofun))
theorem aQX:type_of% (@eB.eq_3 (A.d D.nilm) (by nofun) (by nofun)):=(@eB.eq_3 (A.d D.nilm) (by nofun) (by nofun))
theorem aQ1:type_of% (fun v0 v1 => @eB.eq_3 (A.d (D.ifc v0 v1)) (by nofun) (by nofun)):=by intros; rfl
theorem aRu:type_of% (fun v0 v1 v2 v3 => @eB.eq_3 (A.sl v0 v1 v2 v3) (by nofun) (by nofun)):=by intros; rfl
theorem aRv:type_of% (fun v0 v1 v2 => @eB.eq_3 (A.ptr v0 v1 v2) (by nofun) (by nofun)):=by intros; rfl
theorem aSc:type_of% (fun v0 => @eB.eq_3 (A.mp v0) (by nofun) (by nofun)):=by intros; rfl
theorem aRC:type_of% (fun v0 v1 => @eB.eq_3 (A.clo v0 v1) (by nofun) (by nofun)):=by intros; rfl
theorem aRn:type_of% (fun v0 => @eB.eq_3 (A.agg v0) (by nofun) (by nofun)):=by intros; rfl
theorem aRf:type_of% (fun v0 => @eB.eq_3 (A.tup v0) (by nofun) (by nofun)):=by intros; rfl
theorem aR0:type_of% (fun v0 => @tidy.eq_3 List.nil v0 (by nofun) (by nofun)):=by intros; rfl
theorem aQ4:type_of% (fun v0 => @tidy.eq_3 (List.cons Bool.false v0) List.nil (by nofun) (by nofun)):=by intros; rfl
theorem aRN:type_of% (fun v0 => @tidy.eq_3 (List.cons Bool.true v0) List.nil (by nofun) (by nofun)):=by intros; rfl
theorem aRl:type_of% (fun v0 v1 v2 v3 v4 => @dD.eq_2 v0 v1 v2 v3 (A.d v4) (by nofun)):=by intros; rfl
theorem aSb:type_of% (fun v0 v1 v2 v3 v4 v5 v6 v7 => @dD.eq_2 v0 v1 v2 v3 (A.sl v4 v5 v6 v7) (by nofun)):=by intros; rfl
theorem aQV:type_of% (fun v0 v1 v2 v3 v4 v5 v6 => @dD.eq_2 v0 v1 v2 v3 (A.ptr v4 v5 v6) (by nofun)):=by intros; rfl
theorem aQ2:type_of% (fun v0 v1 v2 v3 v4 v5 => @dD.eq_2 v0 v1 v2 v3 (A.clo v4 v5) (by nofun)):=by intros; rfl
theorem aRY:type_of% (fun v0 v1 v2 v3 v4 => @dD.eq_2 v0 v1 v2 v3 (A.agg v4) (by nofun)):=by intros; rfl
theorem aSt:type_of% (fun v0 v1 v2 v3 v4 => @dD.eq_2 v0 v1 v2 v3 (A.tup v4) (by nofun)):=by intros; rfl
theorem aRG:type_of% (fun v0 v1 v2 v3 => @dD.eq_2 v0 v1 v2 v3 A.junk (by nofun)):=by intros; rfl
theorem aRx:type_of% (fun v0 v1 v2 v3 v4 => @kO.eq_2 v0 v1 v2 (A.d v4) v3 (by nofun)):=by intros; rfl
theorem aSi:type_of% (fun v0 v1 v2 v3 v4 v5 v6 => @kO.eq_2 v0 v1 v2 (A.ptr v4 v5 v6) v3 (by nofun)):=by intros; rfl
theorem aR9:type_of% (fun v0 v1 v2 v3 v4 => @kO.eq_2 v0 v1 v2 (A.mp v4) v3 (by nofun)):=by intros; rfl
theorem aRF:type_of% (fun v0 v1 v2 v3 v4 v5 => @kO.eq_2 v0 v1 v2 (A.clo v4 v5) v3 (by nofun)):=by intros; rfl
theorem aRP:type_of% (fun v0 v1 v2 v3 v4 => @kO.eq_2 v0 v1 v2 (A.agg v4) v3 (by nofun)):=by intros; rfl
theorem aRr:type_of% (fun v0 v1 v2 v3 v4 => @kO.eq_2 v0 v1 v2 (A.tup v4) v3 (by nofun)):=by intros; rfl
theorem aSr:type_of% (fun v0 v1 v2 v3 => @kO.eq_2 v0 v1 v2 A.junk v3 (by nofun)):=by intros; rfl
theorem aSA:type_of% (fun v0 v1 => @yK.eq_2 v0 (A.d v1) (by nofun)):=by intros; rfl
theorem aRQ:type_of% (fun v0 v1 v2 v3 => @yK.eq_2 v0 (A.ptr v1 v2 v3) (by nofun)):=by intros; rfl
theorem aRS:type_of% (fun v0 v1 => @yK.eq_2 v0 (A.mp v1) (by nofun)):=by intros; rfl
theorem aR4:type_of% (fun v0 v1 v2 => @yK.eq_2 v0 (A.clo v1 v2) (by nofun)):=by intros; rfl
theorem aRc:type_of% (fun v0 v1 => @yK.eq_2 v0 (A.agg v1) (by nofun)):=by intros; rfl
theorem aSm:type_of% (fun v0 v1 => @yK.eq_2 v0 (A.tup v1) (by nofun)):=by intros; rfl
theorem aSy:type_of% (fun v0 => @yK.eq_2 v0 A.junk (by nofun)):=by intros; rfl
theorem aRD:type_of% (fun v0 v1 v2 => @kH.eq_2 v0 v1 (A.d v2) (by nofun)):=by intros; rfl
theorem aSo:type_of% (fun v0 v1 v2 v3 v4 => @kH.eq_2 v0 v1 (A.ptr v2 v3 v4) (by nofun)):=by intros; rfl
theorem aRL:type_of% (fun v0 v1 v2 => @kH.eq_2 v0 v1 (A.mp v2) (by nofun)):=by intros; rfl
theorem aR8:type_of% (fun v0 v1 v2 v3 => @kH.eq_2 v0 v1 (A.clo v2 v3) (by nofun)):=by intros; rfl
theorem aR5:type_of% (fun v0 v1 v2 => @kH.eq_2 v0 v1 (A.agg v2) (by nofun)):=by intros; rfl
theorem aRK:type_of% (fun v0 v1 v2 => @kH.eq_2 v0 v1 (A.tup v2) (by nofun)):=by intros; rfl
theorem aSv:type_of% (fun v0 v1 => @kH.eq_2 v0 v1 A.junk (by nofun)):=by intros; rfl
theorem aR7:type_of% (fun v0 v1 v2 => @frz.eq_5 v0 (A.d v2) v1 (by nofun) (by nofun) (by nofun)):=by intros; rfl
theorem aRt:type_of% (fun v0 v1 v2 => @frz.eq_5 v0 (A.mp v2) v1 (by nofun) (by nofun) (by nofun)):=by intros; rfl
theorem aSh:type_of% (fun v0 v1 v2 => @frz.eq_5 v0 (A.agg v2) v1 (by nofun) (by nofun) (by nofun)):=by intros; rfl
theorem aQ9:type_of% (fun v0 v1 v2 => @frz.eq_5 v0 (A.tup v2) v1 (by nofun) (by nofun) (by nofun)):=by intros; rfl
theorem aSl:type_of% (fun v0 v1 => @frz.eq_5 v0 A.junk v1 (by nofun) (by nofun) (by nofun)):=by intros; rfl
theorem aRm:type_of% (fun v0 v1 v2 v3 => @frz0.eq_3 v0 (A.ptr v1 v2 v3) (by nofun) (by nofun)):=by intros; rfl
theorem aRg:type_of% (fun v0 v1 => @frz0.eq_3 v0 (A.mp v1) (by nofun) (by nofun)):=by intros; rfl
theorem aR2:type_of% (fun v0 v1 v2 => @frz0.eq_3 v0 (A.clo v1 v2) (by nofun) (by nofun)):=by intros; rfl
theorem aRW:type_of% (fun v0 v1 => @frz0.eq_3 v0 (A.agg v1) (by nofun) (by nofun)):=by intros; rfl
theorem aQ7:type_of% (fun v0 v1 => @frz0.eq_3 v0 (A.tup v1) (by nofun) (by nofun)):=by intros; rfl
theorem aRk:type_of% (fun v0 => @frz0.eq_3 v0 A.junk (by nofun) (by nofun)):=by intros; rfl
theorem aRE:type_of% (fun v0 => @aT.eq_2 (A.d v0) (by nofun)):=by intros; rfl
theorem aSz:type_of% (fun v0 v1 v2 v3 => @aT.eq_2 (A.sl v0 v1 v2 v3) (by nofun)):=by intros; rfl
theorem aSg:type_of% (fun v0 v1 v2 => @aT.eq_2 (A.ptr v0 v1 v2) (by nofun)):=by intros; rfl
theorem aQ5:type_of% (fun v0 => @aT.eq_2 (A.mp v0) (by nofun)):=by intros; rfl
theorem aSx:type_of% (fun v0 v1 => @aT.eq_2 (A.clo v0 v1) (by nofun)):=by intros; rfl
theorem aRp:type_of% (fun v0 => @aT.eq_2 (A.tup v0) (by nofun)):=by intros; rfl
theorem aRZ:type_of% (@aT.eq_2 A.junk (by nofun)):=(@aT.eq_2 A.junk (by nofun))
theorem aQW:type_of% (fun v0 v1 => @c7.eq_5 (A.d (D.int v0 v1)) (by nofun) (by nofun) (by nofun) (by nofun)):=by intros; rfl
theorem aSw:type_of% (fun v0 => @c7.eq_5 (A.d (D.bool v0)) (by nofun) (by nofun) (by nofun) (by nofun)):=by intros; rfl
theorem aSj:type_of% (fun v0 => @c7.eq_5 (A.d (D.str v0)) (by nofun) (by nofun) (by nofun) (by nofun)):=by intros; rfl
theorem aRM:type_of% (fun v0 v1 => @c7.eq_5 (A.d (D.ivs v0 v1)) (by nofun) (by nofun) (by nofun) (by nofun)):=by intros; rfl
theorem aOF:type_of% (@c7.eq_5 (A.d D.nils) (by nofun) (by nofun) (by nofun) (by nofun)):=(@c7.eq_5 (A.d D.nils) (by nofun) (by nofun) (by nofun) (by nofun))
theorem aNV:type_of% (fun v0 => @c7.eq_5 (A.d (D.iptr v0)) (by nofun) (by nofun) (by nofun) (by nofun)):=by intros; rfl
theorem aNg:type_of% (@c7.eq_5 (A.d D.nilp) (by nofun) (by nofun) (by nofun) (by nofun)):=(@c7.eq_5 (A.d D.nilp) (by nofun) (by nofun) (by nofun) (by nofun))
theorem aO0:type_of% (fun v0 v1 => @c7.eq_5 (A.d (D.fn v0 v1)) (by nofun) (by nofun) (by nofun) (by nofun)):=by intros; rfl
theorem aM5:type_of% (@c7.eq_5 (A.d D.nilfn) (by nofun) (by nofun) (by nofun) (by nofun)):=(@c7.eq_5 (A.d D.nilfn) (by nofun) (by nofun) (by nofun) (by nofun))
theorem aO3:type_of% (@c7.eq_5 (A.d D.nili) (by nofun) (by nofun) (by nofun) (by nofun)):=(@c7.eq_5 (A.d D.nili) (by nofun) (by nofun) (by nofun) (by nofun))
theorem aMo:type_of% (@c7.eq_5 (A.d D.nilm) (by nofun) (by nofun) (by nofun) (by nofun)):=(@c7.eq_5 (A.d D.nilm) (by nofun) (by nofun) (by nofun) (by nofun))
theorem aPm:type_of% (fun v0 v1 => @c7.eq_5 (A.d (D.ifc v0 v1)) (by nofun) (by nofun) (by nofun) (by nofun)):=by intros; rfl
theorem aOU:type_of% (fun v0 v1 v2 v3 => @c7.eq_5 (A.sl v0 v1 v2 v3) (by nofun) (by nofun) (by nofun) (by nofun)):=by intros; rfl
theorem aMy:type_of% (fun v0 v1 v2 => @c7.eq_5 (A.ptr v0 v1 v2) (by nofun) (by nofun) (by nofun) (by nofun)):=by intros; rfl
theorem aNc:type_of% (fun v0 => @c7.eq_5 (A.mp v0) (by nofun) (by nofun) (by nofun) (by nofun)):=by intros; rfl
theorem aOE:type_of% (fun v0 v1 => @c7.eq_5 (A.clo v0 v1) (by nofun) (by nofun) (by nofun) (by nofun)):=by intros; rfl
theorem aM3:type_of% (fun v0 => @nS.eq_2 (A.d v0) (by nofun)):=by intros; rfl
theorem aPv:type_of% (fun v0 v1 v2 v3 => @nS.eq_2 (A.sl v0 v1 v2 v3) (by nofun)):=by intros; rfl
theorem aMn:type_of% (fun v0 v1 v2 => @nS.eq_2 (A.ptr v0 v1 v2) (by nofun)):=by intros; rfl
theorem aO6:type_of% (fun v0 => @nS.eq_2 (A.mp v0) (by nofun)):=by intros; rfl
theorem aOS:type_of% (fun v0 v1 => @nS.eq_2 (A.clo v0 v1) (by nofun)):=by intros; rfl
theorem aOc:type_of% (fun v0 => @nS.eq_2 (A.agg v0) (by nofun)):=by intros; rfl
theorem aNB:type_of% (fun v0 => @nS.eq_2 (A.tup v0) (by nofun)):=by intros; rfl
theorem aOQ:type_of% (fun v0 v1 v2 v3 => @fQ.eq_4 (O.arr v1 v2 v3) v0 (by nofun) (by nofun)):=by intros; rfl
theorem aPA:type_of% (fun v0 v1 v2 v3 => @fQ.eq_4 (O.ice v1 v2 v3) v0 (by nofun) (by nofun)):=by intros; rfl
theorem aO5:type_of% (fun v0 v1 => @fQ.eq_4 (O.mp v1) v0 (by nofun) (by nofun)):=by intros; rfl
theorem aOT:type_of% (fun v0 => @fQ.eq_4 O.void v0 (by nofun) (by nofun)):=by intros; rfl
theorem aPn:type_of% (@tupA.eq_2 List.nil (by nofun)):=(@tupA.eq_2 List.nil (by nofun))
theorem aOy:type_of% (fun v0 v1 v2 => @tupA.eq_2 (List.cons v0 (List.cons v1 v2)) (by nofun)):=by intros; rfl
theorem aNN:type_of% (fun v0 => @ET.eq_2 List.nil v0 (by nofun)):=by intros; rfl
theorem aOA:type_of% (fun v0 v1 => @ET.eq_2 (List.cons v1 List.nil) v0 (by nofun)):=by intros; rfl
theorem aNA:type_of% (fun v0 v1 v2 => @ET.eq_2 (List.cons v1 (List.cons v2 List.nil)) v0 (by nofun)):=by intros; rfl
theorem aOK:type_of% (fun v0 v1 v2 v3 v4 v5 => @ET.eq_2 (List.cons v1 (List.cons v2 (List.cons v3 (List.cons v4 v5)))) v0 (by nofun)):=by intros; rfl
theorem aPl:type_of% (fun v0 v1 v2 v3 v4 => @dV.eq_2 v0 v1 (Go.Operand.tmp v4) v2 v3 (by nofun)):=by intros; rfl
theorem aM7:type_of% (fun v0 v1 v2 v3 => @dV.eq_2 v0 v1 (Go.Operand.const v3) v2 (A.d D.undef) (by nofun)):=by intros; rfl
theorem aOX:type_of% (fun v0 v1 v2 v3 v4 v5 => @dV.eq_2 v0 v1 (Go.Operand.const v3) v2 (A.d (D.int v4 v5)) (by nofun)):=by intros; rfl
theorem aOk:type_of% (fun v0 v1 v2 v3 v4 => @dV.eq_2 v0 v1 (Go.Operand.const v3) v2 (A.d (D.bool v4)) (by nofun)):=by intros; rfl
theorem aMW:type_of% (fun v0 v1 v2 v3 v4 => @dV.eq_2 v0 v1 (Go.Operand.const v3) v2 (A.d (D.str v4)) (by nofun)):=by intros; rfl
theorem aPj:type_of% (fun v0 v1 v2 v3 v4 v5 => @dV.eq_2 v0 v1 (Go.Operand.const v3) v2 (A.d (D.ivs v4 v5)) (by nofun)):=by intros; rfl
theorem aMR:type_of% (fun v0 v1 v2 v3 v4 => @dV.eq_2 v0 v1 (Go.Operand.const v3) v2 (A.d (D.iptr v4)) (by nofun)):=by intros; rfl
theorem aNP:type_of% (fun v0 v1 v2 v3 => @dV.eq_2 v0 v1 (Go.Operand.const v3) v2 (A.d D.nilp) (by nofun)):=by intros; rfl
theorem aOH:type_of% (fun v0 v1 v2 v3 v4 v5 => @dV.eq_2 v0 v1 (Go.Operand.const v3) v2 (A.d (D.fn v4 v5)) (by nofun)):=by intros; rfl
theorem aNU:type_of% (fun v0 v1 v2 v3 => @dV.eq_2 v0 v1 (Go.Operand.const v3) v2 (A.d D.nilfn) (by nofun)):=by intros; rfl
theorem aMl:type_of% (fun v0 v1 v2 v3 => @dV.eq_2 v0 v1 (Go.Operand.const v3) v2 (A.d D.nili) (by nofun)):=by intros; rfl
theorem aN8:type_of% (fun v0 v1 v2 v3 => @dV.eq_2 v0 v1 (Go.Operand.const v3) v2 (A.d D.nilm) (by nofun)):=by intros; rfl
theorem aPr:type_of% (fun v0 v1 v2 v3 v4 v5 => @dV.eq_2 v0 v1 (Go.Operand.const v3) v2 (A.d (D.ifc v4 v5)) (by nofun)):=by intros; rfl
theorem aMw:type_of% (fun v0 v1 v2 v3 v4 v5 v6 v7 => @dV.eq_2 v0 v1 (Go.Operand.const v3) v2 (A.sl v4 v5 v6 v7) (by nofun)):=by intros; rfl
theorem aNa:type_of% (fun v0 v1 v2 v3 v4 v5 v6 => @dV.eq_2 v0 v1 (Go.Operand.const v3) v2 (A.ptr v4 v5 v6) (by nofun)):=by intros; rfl
theorem aNl:type_of% (fun v0 v1 v2 v3 v4 => @dV.eq_2 v0 v1 (Go.Operand.const v3) v2 (A.mp v4) (by nofun)):=by intros; rfl
theorem aMV:type_of% (fun v0 v1 v2 v3 v4 v5 => @dV.eq_2 v0 v1 (Go.Operand.const v3) v2 (A.clo v4 v5) (by nofun)):=by intros; rfl
theorem aMu:type_of% (fun v0 v1 v2 v3 v4 => @dV.eq_2 v0 v1 (Go.Operand.const v3) v2 (A.agg v4) (by nofun)):=by intros; rfl
theorem aNy:type_of% (fun v0 v1 v2 v3 v4 => @dV.eq_2 v0 v1 (Go.Operand.const v3) v2 (A.tup v4) (by nofun)):=by intros; rfl
theorem aNE:type_of% (fun v0 v1 v2 v3 => @dV.eq_2 v0 v1 (Go.Operand.const v3) v2 A.junk (by nofun)):=by intros; rfl
theorem aMD:type_of% (fun v0 v1 v2 v3 v4 => @dV.eq_2 v0 v1 (Go.Operand.global v4) v2 v3 (by nofun)):=by intros; rfl
theorem aNo:type_of% (fun v0 v1 v2 v3 v4 => @dV.eq_2 v0 v1 (Go.Operand.func v4) v2 v3 (by nofun)):=by intros; rfl
theorem aMI:type_of% (fun v0 => @b8.eq_2 (Go.Op.move v0) (by nofun)):=by intros; rfl
theorem aMf:type_of% (fun v0 => @b8.eq_2 (Go.Op.assign v0) (by nofun)):=by intros; rfl
theorem aOh:type_of% (fun v0 v1 v2 => @b8.eq_2 (Go.Op.pick v0 v1 v2) (by nofun)):=by intros; rfl
theorem aOR:type_of% (fun v0 => @b8.eq_2 (Go.Op.alloc v0) (by nofun)):=by intros; rfl
theorem aM9:type_of% (fun v0 v1 => @b8.eq_2 (Go.Op.box v0 v1) (by nofun)):=by intros; rfl
theorem aN9:type_of% (fun v0 v1 => @b8.eq_2 (Go.Op.build v0 v1) (by nofun)):=by intros; rfl
theorem aMg:type_of% (fun v0 v1 v2 => @b8.eq_2 (Go.Op.buildSlice v0 v1 v2) (by nofun)):=by intros; rfl
theorem aOz:type_of% (fun v0 v1 v2 v3 => @b8.eq_2 (Go.Op.insert v0 v1 v2 v3) (by nofun)):=by intros; rfl
theorem aMG:type_of% (fun v0 v1 => @b8.eq_2 (Go.Op.load v0 v1) (by nofun)):=by intros; rfl
theorem aM2:type_of% (fun v0 v1 v2 => @b8.eq_2 (Go.Op.store v0 v1 v2) (by nofun)):=by intros; rfl
theorem aNv:type_of% (fun v0 => @b8.eq_2 (Go.Op.ready v0) (by nofun)):=by intros; rfl
theorem aNX:type_of% (fun v0 => @b8.eq_2 (Go.Op.waits v0) (by nofun)):=by intros; rfl
theorem aOP:type_of% (fun v0 => @b8.eq_2 (Go.Op.nilCheck v0) (by nofun)):=by intros; rfl
theorem aPt:type_of% (fun v0 v1 v2 v3 v4 => @b8.eq_2 (Go.Op.binOp v0 v1 v2 v3 v4) (by nofun)):=by intros; rfl
theorem aOn:type_of% (fun v0 v1 v2 => @b8.eq_2 (Go.Op.unOp v0 v1 v2) (by nofun)):=by intros; rfl
theorem aNO:type_of% (fun v0 v1 v2 => @b8.eq_2 (Go.Op.convert v0 v1 v2) (by nofun)):=by intros; rfl
theorem aNK:type_of% (fun v0 v1 => @b8.eq_2 (Go.Op.sliceToArrayPointer v0 v1) (by nofun)):=by intros; rfl
theorem aNG:type_of% (fun v0 v1 => @b8.eq_2 (Go.Op.makeInterface v0 v1) (by nofun)):=by intros; rfl
theorem aMM:type_of% (fun v0 v1 v2 => @b8.eq_2 (Go.Op.makeFunc v0 v1 v2) (by nofun)):=by intros; rfl
theorem aOx:type_of% (fun v0 v1 => @b8.eq_2 (Go.Op.makeMap v0 v1) (by nofun)):=by intros; rfl
theorem aNt:type_of% (fun v0 v1 => @b8.eq_2 (Go.Op.makeChan v0 v1) (by nofun)):=by intros; rfl
theorem aNq:type_of% (fun v0 v1 v2 => @b8.eq_2 (Go.Op.makeSlice v0 v1 v2) (by nofun)):=by intros; rfl
theorem aNb:type_of% (fun v0 v1 v2 v3 v4 => @b8.eq_2 (Go.Op.slice v0 v1 v2 v3 v4) (by nofun)):=by intros; rfl
theorem aOB:type_of% (fun v0 v1 v2 => @b8.eq_2 (Go.Op.fieldAddr v0 v1 v2) (by nofun)):=by intros; rfl
theorem aOd:type_of% (fun v0 v1 v2 => @b8.eq_2 (Go.Op.field v0 v1 v2) (by nofun)):=by intros; rfl
theorem aN5:type_of% (fun v0 v1 v2 => @b8.eq_2 (Go.Op.indexAddr v0 v1 v2) (by nofun)):=by intros; rfl
theorem aNh:type_of% (fun v0 v1 v2 => @b8.eq_2 (Go.Op.index v0 v1 v2) (by nofun)):=by intros; rfl
theorem aO4:type_of% (fun v0 v1 v2 v3 => @b8.eq_2 (Go.Op.lookup v0 v1 v2 v3) (by nofun)):=by intros; rfl
theorem aMZ:type_of% (fun v0 v1 v2 v3 => @b8.eq_2 (Go.Op.mapUpdate v0 v1 v2 v3) (by nofun)):=by intros; rfl
theorem aOm:type_of% (fun v0 v1 v2 => @b8.eq_2 (Go.Op.mapEntry v0 v1 v2) (by nofun)):=by intros; rfl
theorem aMm:type_of% (fun v0 v1 v2 v3 => @b8.eq_2 (Go.Op.entryStore v0 v1 v2 v3) (by nofun)):=by intros; rfl
theorem aOu:type_of% (fun v0 v1 => @b8.eq_2 (Go.Op.range v0 v1) (by nofun)):=by intros; rfl
theorem aPk:type_of% (fun v0 v1 => @b8.eq_2 (Go.Op.next v0 v1) (by nofun)):=by intros; rfl
theorem aOI:type_of% (fun v0 => @b8.eq_2 (Go.Op.entry v0) (by nofun)):=by intros; rfl
theorem aNY:type_of% (fun v0 v1 v2 v3 => @b8.eq_2 (Go.Op.typeAssert v0 v1 v2 v3) (by nofun)):=by intros; rfl
theorem aO1:type_of% (fun v0 v1 => @b8.eq_2 (Go.Op.extract v0 v1) (by nofun)):=by intros; rfl
theorem aPz:type_of% (fun v0 => @b8.eq_2 (Go.Op.go v0) (by nofun)):=by intros; rfl
theorem aOq:type_of% (fun v0 => @b8.eq_2 (Go.Op.defer v0) (by nofun)):=by intros; rfl
theorem aOM:type_of% (fun v0 => @b8.eq_2 (Go.Op.panic v0) (by nofun)):=by intros; rfl
theorem aPb:type_of% (fun v0 v1 => @b8.eq_2 (Go.Op.send v0 v1) (by nofun)):=by intros; rfl
theorem aMK:type_of% (fun v0 v1 v2 => @b8.eq_2 (Go.Op.recv v0 v1 v2) (by nofun)):=by intros; rfl
theorem aN3:type_of% (fun v0 v1 => @b8.eq_2 (Go.Op.select v0 v1) (by nofun)):=by intros; rfl
theorem aMN:type_of% (fun v0 v1 => @aW.eq_3 v0 (A.d D.undef) v1 (by nofun)):=by intros; rfl
theorem aMt:type_of% (fun v0 v1 v2 v3 => @aW.eq_3 v0 (A.d (D.int v2 v3)) v1 (by nofun)):=by intros; rfl
theorem aPd:type_of% (fun v0 v1 v2 => @aW.eq_3 v0 (A.d (D.bool v2)) v1 (by nofun)):=by intros; rfl
theorem aNW:type_of% (fun v0 v1 v2 => @aW.eq_3 v0 (A.d (D.str v2)) v1 (by nofun)):=by intros; rfl
theorem aPs:type_of% (fun v0 v1 v2 v3 => @aW.eq_3 v0 (A.d (D.ivs v2 v3)) v1 (by nofun)):=by intros; rfl
theorem aMh:type_of% (fun v0 v1 v2 => @aW.eq_3 v0 (A.d (D.iptr v2)) v1 (by nofun)):=by intros; rfl
theorem aNs:type_of% (fun v0 v1 => @aW.eq_3 v0 (A.d D.nilp) v1 (by nofun)):=by intros; rfl
theorem aOJ:type_of% (fun v0 v1 v2 v3 => @aW.eq_3 v0 (A.d (D.fn v2 v3)) v1 (by nofun)):=by intros; rfl
theorem aNp:type_of% (fun v0 v1 => @aW.eq_3 v0 (A.d D.nilfn) v1 (by nofun)):=by intros; rfl
theorem aOC:type_of% (fun v0 v1 => @aW.eq_3 v0 (A.d D.nili) v1 (by nofun)):=by intros; rfl
theorem aOO:type_of% (fun v0 v1 => @aW.eq_3 v0 (A.d D.nilm) v1 (by nofun)):=by intros; rfl
theorem aOj:type_of% (fun v0 v1 v2 v3 => @aW.eq_3 v0 (A.d (D.ifc v2 v3)) v1 (by nofun)):=by intros; rfl
theorem aNm:type_of% (fun v0 v1 v2 v3 v4 v5 => @aW.eq_3 v0 (A.sl v2 v3 v4 v5) v1 (by nofun)):=by intros; rfl
theorem aMP:type_of% (fun v0 v1 v2 v3 v4 => @aW.eq_3 v0 (A.ptr v2 v3 v4) v1 (by nofun)):=by intros; rfl
theorem aNz:type_of% (fun v0 v1 v2 => @aW.eq_3 v0 (A.mp v2) v1 (by nofun)):=by intros; rfl
theorem aMF:type_of% (fun v0 v1 v2 v3 => @aW.eq_3 v0 (A.clo v2 v3) v1 (by nofun)):=by intros; rfl
theorem aNQ:type_of% (fun v0 v1 v2 => @aW.eq_3 v0 (A.agg v2) v1 (by nofun)):=by intros; rfl
theorem aPg:type_of% (fun v0 v1 v2 => @aW.eq_3 v0 (A.tup v2) v1 (by nofun)):=by intros; rfl
theorem aOg:type_of% (fun v0 v1 => @aW.eq_3 v0 A.junk v1 (by nofun)):=by intros; rfl
theorem aOL:type_of% (fun v0 v1 v2 v3 => @mapO.eq_3 v0 (O.arr v1 v2 v3) (by nofun) (by nofun)):=by intros; rfl
theorem aM4:type_of% (fun v0 v1 v2 v3 => @mapO.eq_3 v0 (O.ice v1 v2 v3) (by nofun) (by nofun)):=by intros; rfl
theorem aMv:type_of% (fun v0 v1 => @mapO.eq_3 v0 (O.mp v1) (by nofun) (by nofun)):=by intros; rfl
theorem aMB:type_of% (fun v0 => @mapO.eq_3 v0 O.void (by nofun) (by nofun)):=by intros; rfl
theorem aNZ:type_of% (fun v0 v1 => @frzA.eq_2 v0 (A.d v1) (by nofun)):=by intros; rfl
theorem aMr:type_of% (fun v0 v1 v2 v3 v4 => @frzA.eq_2 v0 (A.sl v1 v2 v3 v4) (by nofun)):=by intros; rfl
theorem aN4:type_of% (fun v0 v1 v2 v3 => @frzA.eq_2 v0 (A.ptr v1 v2 v3) (by nofun)):=by intros; rfl
theorem aOv:type_of% (fun v0 v1 => @frzA.eq_2 v0 (A.mp v1) (by nofun)):=by intros; rfl
theorem aMk:type_of% (fun v0 v1 v2 => @frzA.eq_2 v0 (A.clo v1 v2) (by nofun)):=by intros; rfl
theorem aNH:type_of% (fun v0 v1 => @frzA.eq_2 v0 (A.tup v1) (by nofun)):=by intros; rfl
theorem aMq:type_of% (fun v0 => @frzA.eq_2 v0 A.junk (by nofun)):=by intros; rfl
theorem aMO:type_of% (fun v0 v1 v2 v3 v4 v5 v6 => @fC.eq_4 v0 v1 v2 (Go.Callee.invoke v5 v6) v3 v4 (by nofun) (by nofun)):=by intros; rfl
theorem UN0:type_of% (AI @aDG (AI @aFR (AI @aDi (AI @aAt (AI @aC4 (AI @aH7 (AI @aLa (AI @aEX (AI @aLe (AI @aDY (AI @aKZ (AI @aFp (AI @aLen.eq_def (AI @SN (AI @aCH (AI @aDa (AI @aFs (AI @aAX (AI @XJ (AI @aFg (AI @Z3 (AI @aCF (AI @VM (AI @S5 (AI @VC (AI @aFc (AI @aFD (AI @aGt (AI @aGf (AI @aKF (AI @aKJ (AI @aKI (AI @List.replicate.eq_1.{0} (AI @List.replicate.eq_2.{0} (AI @List.range'.eq_1 (AI @List.range'.eq_2 (AI True.intro (AI @F3.eq_1 (AI @F3.eq_2 @QM.eq_1))))))))))))))))))))))))))))))))))))))) :=
 ⟨@aDG,@aFR,@aDi,@aAt,@aC4,@aH7,@aLa,@aEX,@aLe,@aDY,@aKZ,@aFp,@aLen.eq_def,@SN,@aCH,@aDa,@aFs,@aAX,@XJ,@aFg,@Z3,@aCF,@VM,@S5,@VC,@aFc,@aFD,@aGt,@aGf,@aKF,@aKJ,@aKI,@List.replicate.eq_1.{0},@List.replicate.eq_2.{0},@List.range'.eq_1,@List.range'.eq_2,True.intro,@F3.eq_1,@F3.eq_2,@QM.eq_1⟩
theorem UN1:type_of% (AI @aPut.eq_1 (AI @aPut.eq_2 (AI @jK.eq_1 (AI @jK.eq_2 (AI @UNx1 (AI @UNx2 (AI @UNx3 (AI @UNx4 (AI @outA.eq_1 (AI @UNx5 (AI @UNx6 (AI @UNx7 (AI @UNx8 (AI @UNx9 (AI @aRT (AI @aRH (AI @outS.eq_1 (AI @aR1 (AI @aRa (AI @aSu (AI @aRX (AI @aR3 (AI @aR6 (AI @aRy (AI @aSk (AI @aRs (AI @aSs (AI @aSB (AI @aSp (AI @outS.eq_3 (AI @outS.eq_4 (AI @outS.eq_5 (AI @aRV (AI @aRB (AI @aRd (AI @aRA (AI @B3.eq_1 (AI @B3.eq_2 (AI @idsA.eq_1 @idsA.eq_2))))))))))))))))))))))))))))))))))))))) :=
 ⟨@aPut.eq_1,@aPut.eq_2,@jK.eq_1,@jK.eq_2,@UNx1,@UNx2,@UNx3,@UNx4,@outA.eq_1,@UNx5,@UNx6,@UNx7,@UNx8,@UNx9,@aRT,@aRH,@outS.eq_1,@aR1,@aRa,@aSu,@aRX,@aR3,@aR6,@aRy,@aSk,@aRs,@aSs,@aSB,@aSp,@outS.eq_3,@outS.eq_4,@outS.eq_5,@aRV,@aRB,@aRd,@aRA,@B3.eq_1,@B3.eq_2,@idsA.eq_1,@idsA.eq_2⟩
theorem UN2:type_of% (AI @idsA.eq_3 (AI @idsA.eq_4 (AI @idsA.eq_5 (AI @idsA.eq_6 (AI @idsA.eq_7 (AI @idsA.eq_8 (AI @idsL.eq_1 (AI @idsL.eq_2 (AI @mapA.eq_1 (AI @mapA.eq_2 (AI @mapA.eq_3 (AI @mapA.eq_4 (AI @mapA.eq_5 (AI @mapA.eq_6 (AI @mapA.eq_7 (AI @mapA.eq_8 (AI @aS.eq_1 (AI @aS.eq_2 (AI @bV.eq_1 (AI @bV.eq_2 (AI @bV.eq_3 (AI @bV.eq_4 (AI @bV.eq_5 (AI @bV.eq_6 (AI @bV.eq_7 (AI @bV.eq_8 (AI @j4.eq_1 (AI @KV.eq_1 (AI @bA.eq_1 (AI @dY.eq_1 (AI @gM.eq_1 (AI @gM.eq_2 (AI @dE.eq_1 (AI @dE.eq_2 (AI @dE.eq_3 (AI @dE.eq_4 (AI @dE.eq_5 (AI @dE.eq_6 (AI @aF.eq_1 @aF.eq_2))))))))))))))))))))))))))))))))))))))) :=
 ⟨@idsA.eq_3,@idsA.eq_4,@idsA.eq_5,@idsA.eq_6,@idsA.eq_7,@idsA.eq_8,@idsL.eq_1,@idsL.eq_2,@mapA.eq_1,@mapA.eq_2,@mapA.eq_3,@mapA.eq_4,@mapA.eq_5,@mapA.eq_6,@mapA.eq_7,@mapA.eq_8,@aS.eq_1,@aS.eq_2,@bV.eq_1,@bV.eq_2,@bV.eq_3,@bV.eq_4,@bV.eq_5,@bV.eq_6,@bV.eq_7,@bV.eq_8,@j4.eq_1,@KV.eq_1,@bA.eq_1,@dY.eq_1,@gM.eq_1,@gM.eq_2,@dE.eq_1,@dE.eq_2,@dE.eq_3,@dE.eq_4,@dE.eq_5,@dE.eq_6,@aF.eq_1,@aF.eq_2⟩
theorem UN3:type_of% (AI @rC.eq_1 (AI @rC.eq_2 (AI @rC.eq_3 (AI @aRe (AI @eB.eq_1 (AI @eB.eq_2 (AI @aQY (AI @aRR (AI @aRw (AI @aSd (AI @aRU (AI @aSe (AI @aQ6 (AI @aRO (AI @aQZ (AI @aRj (AI @aQX (AI @aQ1 (AI @aRu (AI @aRv (AI @aSc (AI @aRC (AI @aRn (AI @aRf (AI @tidy.eq_1 (AI @tidy.eq_2 (AI @aR0 (AI @aQ4 (AI @aRN (AI @dD.eq_1 (AI @aRl (AI @aSb (AI @aQV (AI @aQ2 (AI @aRY (AI @aSt (AI @aRG (AI @dD.eq_3 (AI @kO.eq_1 @aRx))))))))))))))))))))))))))))))))))))))) :=
 ⟨@rC.eq_1,@rC.eq_2,@rC.eq_3,@aRe,@eB.eq_1,@eB.eq_2,@aQY,@aRR,@aRw,@aSd,@aRU,@aSe,@aQ6,@aRO,@aQZ,@aRj,@aQX,@aQ1,@aRu,@aRv,@aSc,@aRC,@aRn,@aRf,@tidy.eq_1,@tidy.eq_2,@aR0,@aQ4,@aRN,@dD.eq_1,@aRl,@aSb,@aQV,@aQ2,@aRY,@aSt,@aRG,@dD.eq_3,@kO.eq_1,@aRx⟩
theorem UN4:type_of% (AI @aSi (AI @aR9 (AI @aRF (AI @aRP (AI @aRr (AI @aSr (AI @qP.eq_1 (AI @sW.eq_1 (AI @H8.eq_1 (AI @yK.eq_1 (AI @aSA (AI @aRQ (AI @aRS (AI @aR4 (AI @aRc (AI @aSm (AI @aSy (AI @KQ.eq_1 (AI @kH.eq_1 (AI @aRD (AI @aSo (AI @aRL (AI @aR8 (AI @aR5 (AI @aRK (AI @aSv (AI @E8.eq_1 (AI @vJ.eq_1 (AI @dX.eq_1 (AI @dX.eq_2 (AI @dX.eq_3 (AI @dX.eq_4 (AI @tQ.eq_1 (AI @s4.eq_1 (AI @EZ.eq_1 (AI @q9.eq_1 (AI @q9.eq_2 (AI @wE.eq_1 (AI @lY.eq_1 @fH.eq_1))))))))))))))))))))))))))))))))))))))) :=
 ⟨@aSi,@aR9,@aRF,@aRP,@aRr,@aSr,@qP.eq_1,@sW.eq_1,@H8.eq_1,@yK.eq_1,@aSA,@aRQ,@aRS,@aR4,@aRc,@aSm,@aSy,@KQ.eq_1,@kH.eq_1,@aRD,@aSo,@aRL,@aR8,@aR5,@aRK,@aSv,@E8.eq_1,@vJ.eq_1,@dX.eq_1,@dX.eq_2,@dX.eq_3,@dX.eq_4,@tQ.eq_1,@s4.eq_1,@EZ.eq_1,@q9.eq_1,@q9.eq_2,@wE.eq_1,@lY.eq_1,@fH.eq_1⟩
theorem UN5:type_of% (AI @fH.eq_2 (AI @fH.eq_3 (AI @frzL.eq_1 (AI @i7.eq_1 (AI @i7.eq_2 (AI @frz.eq_1 (AI @frz.eq_2 (AI @frz.eq_3 (AI @frz.eq_4 (AI @aR7 (AI @aRt (AI @aSh (AI @aQ9 (AI @aSl (AI @frz0.eq_1 (AI @frz0.eq_2 (AI @aRm (AI @aRg (AI @aR2 (AI @aRW (AI @aQ7 (AI @aRk (AI @deep.eq_1 (AI @aT.eq_1 (AI @aRE (AI @aSz (AI @aSg (AI @aQ5 (AI @aSx (AI @aRp (AI @aRZ (AI @bR.eq_1 (AI @c7.eq_1 (AI @c7.eq_2 (AI @c7.eq_3 (AI @c7.eq_4 (AI @aQW (AI @aSw (AI @aSj @aRM))))))))))))))))))))))))))))))))))))))) :=
 ⟨@fH.eq_2,@fH.eq_3,@frzL.eq_1,@i7.eq_1,@i7.eq_2,@frz.eq_1,@frz.eq_2,@frz.eq_3,@frz.eq_4,@aR7,@aRt,@aSh,@aQ9,@aSl,@frz0.eq_1,@frz0.eq_2,@aRm,@aRg,@aR2,@aRW,@aQ7,@aRk,@deep.eq_1,@aT.eq_1,@aRE,@aSz,@aSg,@aQ5,@aSx,@aRp,@aRZ,@bR.eq_1,@c7.eq_1,@c7.eq_2,@c7.eq_3,@c7.eq_4,@aQW,@aSw,@aSj,@aRM⟩
theorem UN6:type_of% (AI @aOF (AI @aNV (AI @aNg (AI @aO0 (AI @aM5 (AI @aO3 (AI @aMo (AI @aPm (AI @aOU (AI @aMy (AI @aNc (AI @aOE (AI @nS.eq_1 (AI @aM3 (AI @aPv (AI @aMn (AI @aO6 (AI @aOS (AI @aOc (AI @aNB (AI @fQ.eq_1 (AI @fQ.eq_2 (AI @fQ.eq_3 (AI @aOQ (AI @aPA (AI @aO5 (AI @aOT (AI @pF.eq_1 (AI @pF.eq_2 (AI @D2.eq_1 (AI @D2.eq_2 (AI @rD.eq_1 (AI @rD.eq_2 (AI @tupA.eq_1 (AI @aPn (AI @aOy (AI @j8.eq_1 (AI @j8.eq_2 (AI @j8.eq_3 @j8.eq_4))))))))))))))))))))))))))))))))))))))) :=
 ⟨@aOF,@aNV,@aNg,@aO0,@aM5,@aO3,@aMo,@aPm,@aOU,@aMy,@aNc,@aOE,@nS.eq_1,@aM3,@aPv,@aMn,@aO6,@aOS,@aOc,@aNB,@fQ.eq_1,@fQ.eq_2,@fQ.eq_3,@aOQ,@aPA,@aO5,@aOT,@pF.eq_1,@pF.eq_2,@D2.eq_1,@D2.eq_2,@rD.eq_1,@rD.eq_2,@tupA.eq_1,@aPn,@aOy,@j8.eq_1,@j8.eq_2,@j8.eq_3,@j8.eq_4⟩
theorem UN7:type_of% (AI @wJ.eq_1 (AI @wJ.eq_2 (AI @opds.eq_1 (AI @opds.eq_2 (AI @opds.eq_3 (AI @opds.eq_4 (AI @opds.eq_5 (AI @opds.eq_6 (AI @opds.eq_7 (AI @opds.eq_8 (AI @opds.eq_9 (AI @opds.eq_10 (AI @opds.eq_11 (AI @opds.eq_12 (AI @opds.eq_13 (AI @opds.eq_14 (AI @opds.eq_15 (AI @opds.eq_16 (AI @opds.eq_17 (AI @opds.eq_18 (AI @opds.eq_19 (AI @opds.eq_20 (AI @opds.eq_21 (AI @opds.eq_22 (AI @opds.eq_23 (AI @opds.eq_24 (AI @evOp.eq_1 (AI @gK.eq_1 (AI @one.eq_1 (AI @two.eq_1 (AI @ET.eq_1 (AI @aNN (AI @aOA (AI @aNA (AI @aOK (AI @EE.eq_1 (AI @wN.eq_1 (AI @dV.eq_1 (AI @aPl @aM7))))))))))))))))))))))))))))))))))))))) :=
 ⟨@wJ.eq_1,@wJ.eq_2,@opds.eq_1,@opds.eq_2,@opds.eq_3,@opds.eq_4,@opds.eq_5,@opds.eq_6,@opds.eq_7,@opds.eq_8,@opds.eq_9,@opds.eq_10,@opds.eq_11,@opds.eq_12,@opds.eq_13,@opds.eq_14,@opds.eq_15,@opds.eq_16,@opds.eq_17,@opds.eq_18,@opds.eq_19,@opds.eq_20,@opds.eq_21,@opds.eq_22,@opds.eq_23,@opds.eq_24,@evOp.eq_1,@gK.eq_1,@one.eq_1,@two.eq_1,@ET.eq_1,@aNN,@aOA,@aNA,@aOK,@EE.eq_1,@wN.eq_1,@dV.eq_1,@aPl,@aM7⟩
theorem UN8:type_of% (AI @aOX (AI @aOk (AI @aMW (AI @aPj (AI @aMR (AI @aNP (AI @aOH (AI @aNU (AI @aMl (AI @aN8 (AI @aPr (AI @aMw (AI @aNa (AI @aNl (AI @aMV (AI @aMu (AI @aNy (AI @aNE (AI @aMD (AI @aNo (AI @aNew.eq_1 (AI @lX.eq_1 (AI @lX.eq_2 (AI @lX.eq_3 (AI @lX.eq_4 (AI @IX.eq_1 (AI @AK.eq_1 (AI @PT.eq_1 (AI @cU.eq_1 (AI @cU.eq_2 (AI @cU.eq_3 (AI @cU.eq_4 (AI @cU.eq_5 (AI @cU.eq_6 (AI @cU.eq_7 (AI @cU.eq_8 (AI @cU.eq_9 (AI @cU.eq_10 (AI @cU.eq_11 @b8.eq_1))))))))))))))))))))))))))))))))))))))) :=
 ⟨@aOX,@aOk,@aMW,@aPj,@aMR,@aNP,@aOH,@aNU,@aMl,@aN8,@aPr,@aMw,@aNa,@aNl,@aMV,@aMu,@aNy,@aNE,@aMD,@aNo,@aNew.eq_1,@lX.eq_1,@lX.eq_2,@lX.eq_3,@lX.eq_4,@IX.eq_1,@AK.eq_1,@PT.eq_1,@cU.eq_1,@cU.eq_2,@cU.eq_3,@cU.eq_4,@cU.eq_5,@cU.eq_6,@cU.eq_7,@cU.eq_8,@cU.eq_9,@cU.eq_10,@cU.eq_11,@b8.eq_1⟩
theorem UN9:type_of% (AI @aMI (AI @aMf (AI @aOh (AI @aOR (AI @aM9 (AI @aN9 (AI @aMg (AI @aOz (AI @aMG (AI @aM2 (AI @aNv (AI @aNX (AI @aOP (AI @aPt (AI @aOn (AI @aNO (AI @aNK (AI @aNG (AI @aMM (AI @aOx (AI @aNt (AI @aNq (AI @aNb (AI @aOB (AI @aOd (AI @aN5 (AI @aNh (AI @aO4 (AI @aMZ (AI @aOm (AI @aMm (AI @aOu (AI @aPk (AI @aOI (AI @aNY (AI @aO1 (AI @aPz (AI @aOq (AI @aOM @aPb))))))))))))))))))))))))))))))))))))))) :=
 ⟨@aMI,@aMf,@aOh,@aOR,@aM9,@aN9,@aMg,@aOz,@aMG,@aM2,@aNv,@aNX,@aOP,@aPt,@aOn,@aNO,@aNK,@aNG,@aMM,@aOx,@aNt,@aNq,@aNb,@aOB,@aOd,@aN5,@aNh,@aO4,@aMZ,@aOm,@aMm,@aOu,@aPk,@aOI,@aNY,@aO1,@aPz,@aOq,@aOM,@aPb⟩
theorem UN10:type_of% (AI @aMK (AI @aN3 (AI @back.eq_1 (AI @bP.eq_1 (AI @bP.eq_2 (AI @bP.eq_3 (AI @aE.eq_1 (AI @closed.eq_1 (AI @oE.eq_1 (AI @aW.eq_1 (AI @aW.eq_2 (AI @aMN (AI @aMt (AI @aPd (AI @aNW (AI @aPs (AI @aMh (AI @aNs (AI @aOJ (AI @aNp (AI @aOC (AI @aOO (AI @aOj (AI @aNm (AI @aMP (AI @aNz (AI @aMF (AI @aNQ (AI @aPg (AI @aOg (AI @aJ.eq_1 (AI @aJ.eq_2 (AI @pack.eq_1 (AI @mapO.eq_1 (AI @mapO.eq_2 (AI @aOL (AI @aM4 (AI @aMv (AI @aMB @cE.eq_1))))))))))))))))))))))))))))))))))))))) :=
 ⟨@aMK,@aN3,@back.eq_1,@bP.eq_1,@bP.eq_2,@bP.eq_3,@aE.eq_1,@closed.eq_1,@oE.eq_1,@aW.eq_1,@aW.eq_2,@aMN,@aMt,@aPd,@aNW,@aPs,@aMh,@aNs,@aOJ,@aNp,@aOC,@aOO,@aOj,@aNm,@aMP,@aNz,@aMF,@aNQ,@aPg,@aOg,@aJ.eq_1,@aJ.eq_2,@pack.eq_1,@mapO.eq_1,@mapO.eq_2,@aOL,@aM4,@aMv,@aMB,@cE.eq_1⟩
theorem UN11:type_of% (AI @frzA.eq_1 (AI @aNZ (AI @aMr (AI @aN4 (AI @aOv (AI @aMk (AI @aNH (AI @aMq (AI @iV.eq_1 (AI @iV.eq_2 (AI @memD.eq_1 (AI @dA.eq_1 (AI @NV.eq_1 (AI @fC.eq_1 (AI @fC.eq_2 (AI @fC.eq_3 @aMO)))))))))))))))) :=
 ⟨@frzA.eq_1,@aNZ,@aMr,@aN4,@aOv,@aMk,@aNH,@aMq,@iV.eq_1,@iV.eq_2,@memD.eq_1,@dA.eq_1,@NV.eq_1,@fC.eq_1,@fC.eq_2,@fC.eq_3,@aMO⟩
theorem UN:type_of% (AI @UN0 (AI @UN1 (AI @UN2 (AI @UN3 (AI @UN4 (AI @UN5 (AI @UN6 (AI @UN7 (AI @UN8 (AI @UN9 (AI @UN10 @UN11))))))))))) :=
 ⟨@UN0,@UN1,@UN2,@UN3,@UN4,@UN5,@UN6,@UN7,@UN8,@UN9,@UN10,@UN11⟩
theorem aRJ:type_of% (fun v0 v1 v2 v3 v4 => @slim.eq_9 v0 (Go.Code.rangeFunc v1 v2 v3 v4) (by nofun) (by nofun) (by nofun) (by nofun) (by nofun) (by nofun) (by nofun) (by nofun)):=(fun v0 v1 v2 v3 v4 => @slim.eq_9 v0 (Go.Code.rangeFunc v1 v2 v3 v4) (by nofun) (by nofun) (by nofun) (by nofun) (by nofun) (by nofun) (by nofun) (by nofun))
theorem aQ3:type_of% (fun v0 v1 => @slim.eq_9 v0 (Go.Code.scope v1) (by nofun) (by nofun) (by nofun) (by nofun) (by nofun) (by nofun) (by nofun) (by nofun)):=(fun v0 v1 => @slim.eq_9 v0 (Go.Code.scope v1) (by nofun) (by nofun) (by nofun) (by nofun) (by nofun) (by nofun) (by nofun) (by nofun))
theorem aQ8:type_of% (fun v0 v1 => @slim.eq_9 v0 (Go.Code.label v1) (by nofun) (by nofun) (by nofun) (by nofun) (by nofun) (by nofun) (by nofun) (by nofun)):=(fun v0 v1 => @slim.eq_9 v0 (Go.Code.label v1) (by nofun) (by nofun) (by nofun) (by nofun) (by nofun) (by nofun) (by nofun) (by nofun))
theorem aRo:type_of% (fun v0 v1 => @slim.eq_9 v0 (Go.Code.goto v1) (by nofun) (by nofun) (by nofun) (by nofun) (by nofun) (by nofun) (by nofun) (by nofun)):=(fun v0 v1 => @slim.eq_9 v0 (Go.Code.goto v1) (by nofun) (by nofun) (by nofun) (by nofun) (by nofun) (by nofun) (by nofun) (by nofun))
theorem aSn:type_of% (fun v0 v1 => @slim.eq_9 v0 (Go.Code.refuse v1) (by nofun) (by nofun) (by nofun) (by nofun) (by nofun) (by nofun) (by nofun) (by nofun)):=(fun v0 v1 => @slim.eq_9 v0 (Go.Code.refuse v1) (by nofun) (by nofun) (by nofun) (by nofun) (by nofun) (by nofun) (by nofun) (by nofun))
theorem aRi:type_of% (@b5.eq_5 Go.Code.skip (by nofun) (by nofun) (by nofun) (by nofun)):=(@b5.eq_5 Go.Code.skip (by nofun) (by nofun) (by nofun) (by nofun))
theorem aRh:type_of% (fun v0 v1 v2 => @b5.eq_5 (Go.Code.region v0 v1 v2) (by nofun) (by nofun) (by nofun) (by nofun)):=(fun v0 v1 v2 => @b5.eq_5 (Go.Code.region v0 v1 v2) (by nofun) (by nofun) (by nofun) (by nofun))
theorem aQ0:type_of% (fun v0 v1 v2 v3 => @b5.eq_5 (Go.Code.rangeFunc v0 v1 v2 v3) (by nofun) (by nofun) (by nofun) (by nofun)):=(fun v0 v1 v2 v3 => @b5.eq_5 (Go.Code.rangeFunc v0 v1 v2 v3) (by nofun) (by nofun) (by nofun) (by nofun))
theorem aRb:type_of% (fun v0 => @b5.eq_5 (Go.Code.exit v0) (by nofun) (by nofun) (by nofun) (by nofun)):=(fun v0 => @b5.eq_5 (Go.Code.exit v0) (by nofun) (by nofun) (by nofun) (by nofun))
theorem aNJ:type_of% (fun v0 => @b5.eq_5 (Go.Code.scope v0) (by nofun) (by nofun) (by nofun) (by nofun)):=(fun v0 => @b5.eq_5 (Go.Code.scope v0) (by nofun) (by nofun) (by nofun) (by nofun))
theorem aM1:type_of% (fun v0 => @b5.eq_5 (Go.Code.label v0) (by nofun) (by nofun) (by nofun) (by nofun)):=(fun v0 => @b5.eq_5 (Go.Code.label v0) (by nofun) (by nofun) (by nofun) (by nofun))
theorem aOw:type_of% (fun v0 => @b5.eq_5 (Go.Code.goto v0) (by nofun) (by nofun) (by nofun) (by nofun)):=(fun v0 => @b5.eq_5 (Go.Code.goto v0) (by nofun) (by nofun) (by nofun) (by nofun))
theorem aMA:type_of% (@b5.eq_5 Go.Code.ret (by nofun) (by nofun) (by nofun) (by nofun)):=(@b5.eq_5 Go.Code.ret (by nofun) (by nofun) (by nofun) (by nofun))
theorem aOY:type_of% (fun v0 => @b5.eq_5 (Go.Code.refuse v0) (by nofun) (by nofun) (by nofun) (by nofun)):=(fun v0 => @b5.eq_5 (Go.Code.refuse v0) (by nofun) (by nofun) (by nofun) (by nofun))
theorem SLM0:type_of% (AI @Option.getD_some.{0} (AI @List.length_nil.{0} (AI @Nat.add_zero (AI @Nat.zero_add (AI @List.map_cons.{0,0} (AI @List.map_nil.{0,0} (AI @List.getElem?_cons_zero.{0} (AI @List.getElem?_cons_succ.{0} (AI @Option.bind_some.{0,0} (AI @Bool.false_eq_true (AI @if_false.{0} (AI @if_true.{0} (AI @List.length_cons.{0} (AI @List.replicate.eq_1.{0} (AI @List.replicate.eq_2.{0} (AI @List.cons_append.{0} (AI @List.nil_append.{0} (AI @List.append_nil.{0} (AI @List.getD_cons_zero.{0} (AI @List.getD_cons_succ.{0} (AI @bJ.eq_1 (AI @cD.eq_1 (AI @lpOf.eq_1 (AI @aZ.eq_1 (AI @slim.eq_1 (AI @slim.eq_2 (AI @slim.eq_3 (AI @slim.eq_4 (AI @slim.eq_5 (AI @slim.eq_6 (AI @slim.eq_7 (AI @slim.eq_8 (AI @aRJ (AI @aQ3 (AI @aQ8 (AI @aRo (AI @aSn (AI @b5.eq_1 (AI @b5.eq_2 @b5.eq_3))))))))))))))))))))))))))))))))))))))) :=
 ⟨@Option.getD_some.{0},@List.length_nil.{0},@Nat.add_zero,@Nat.zero_add,@List.map_cons.{0,0},@List.map_nil.{0,0},@List.getElem?_cons_zero.{0},@List.getElem?_cons_succ.{0},@Option.bind_some.{0,0},@Bool.false_eq_true,@if_false.{0},@if_true.{0},@List.length_cons.{0},@List.replicate.eq_1.{0},@List.replicate.eq_2.{0},@List.cons_append.{0},@List.nil_append.{0},@List.append_nil.{0},@List.getD_cons_zero.{0},@List.getD_cons_succ.{0},@bJ.eq_1,@cD.eq_1,@lpOf.eq_1,@aZ.eq_1,@slim.eq_1,@slim.eq_2,@slim.eq_3,@slim.eq_4,@slim.eq_5,@slim.eq_6,@slim.eq_7,@slim.eq_8,@aRJ,@aQ3,@aQ8,@aRo,@aSn,@b5.eq_1,@b5.eq_2,@b5.eq_3⟩
theorem SLM1:type_of% (AI @b5.eq_4 (AI @aRi (AI @aRh (AI @aQ0 (AI @aRb (AI @aNJ (AI @aM1 (AI @aOw (AI @aMA (AI @aOY (AI @IR.eq_1 (AI @L7.eq_1 @L7.eq_2)))))))))))) :=
 ⟨@b5.eq_4,@aRi,@aRh,@aQ0,@aRb,@aNJ,@aM1,@aOw,@aMA,@aOY,@IR.eq_1,@L7.eq_1,@L7.eq_2⟩
theorem SLM:type_of% (AI @SLM0 @SLM1) :=
 ⟨@SLM0,@SLM1⟩
theorem LN:type_of% (AI @List.length_append.{0} (AI @List.length_cons.{0} (AI @List.length_nil.{0} (AI @List.length_set.{0} (AI @List.length_replicate.{0} (AI @List.length_map.{0,0} (AI @List.length_take.{0} @List.length_drop.{0}))))))) :=
 ⟨@List.length_append.{0},@List.length_cons.{0},@List.length_nil.{0},@List.length_set.{0},@List.length_replicate.{0},@List.length_map.{0,0},@List.length_take.{0},@List.length_drop.{0}⟩
theorem GT:type_of% (AI @List.getElem?_cons_zero.{0} @List.getElem?_cons_succ.{0}) :=
 ⟨@List.getElem?_cons_zero.{0},@List.getElem?_cons_succ.{0}⟩
end Ev
end Go.Proofs.YtppdfjdfjfoddaaGreat
