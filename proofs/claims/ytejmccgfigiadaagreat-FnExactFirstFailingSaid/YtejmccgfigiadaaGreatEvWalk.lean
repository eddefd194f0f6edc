/-
  How each operation goes, in the form in which the evaluator is walked.
-/
import Derived.Test.YtejmccgfigiadaaGreatEvPrim
set_option linter.unusedSimpArgs false
set_option linter.unusedVariables false
namespace Go.Proofs.YtejmccgfigiadaaGreat
namespace Ev
section
variable {R:Type} {E:Env} {call:b7} {thaw:List Nat} {dst:Option Tmp} {s:List A} {h:H} {k:A → H → Option R}
structure Now (p:Prop):Prop where
 it:p
structure Shut (p:Prop):Prop where
 it:p
inductive Box (α:Type) where
 | mk (a:α)
 | no
def box {α:Type} (a:α):Box α:=.mk a
theorem aUq {α:Type} {a:α}:box a = .mk a:=rfl
theorem aVu {t:Nat} {q:A → Option R}:kv s (.tmp t) q = match box (s.getD t (.d .undef)) with | .no => none | .mk a => q a:=rfl
theorem aUR {K:IntKind} {n:Int} {q:A → Option R}:kv s (.const (.int K n)) q = q (.d (.int K n)):=rfl
theorem aQa {b:Bool} {q:A → Option R}:kv s (.const (.bool b)) q = q (.d (.bool b)):=rfl
theorem aVt {b:ByteArray} {q:A → Option R}:kv s (.const (.string b)) q = match box b.data.toList with | .no => none | .mk l => q (.d (.str l)):=rfl
theorem aQk {q:A → Option R}:kv s (.const (.pointer none)) q = q (.d .nilp):=rfl
theorem aQV {q:A → Option R}:kv s (.const (.slice none 0 0)) q = q (.d .nils):=rfl
theorem aQW {f:FuncId} {q:A → Option R}:kv s (.func f) q = q (.clo f []):=rfl
theorem aTE {cs:Array Value} {q:A → Option R}:kv s (.const (.agg cs)) q = match D1 cs.toList with
  | some as => q (.agg as)
  | none => none:=by
 unfold kv; simp only [dN,RK]
 cases D1 cs.toList <;> rfl
theorem aQw {q:List A → Option R}:kvs s [] q = q []:=rfl
theorem aNA {x:Operand} {xs:List Operand} {q:List A → Option R}:kvs s (x :: xs) q = kv s x fun a => kvs s xs fun as => q (a :: as):=by
 unfold kvs kv
 simp only [cO]
 cases dN s x with
 | none => rfl
 | some a => cases cO s xs <;> rfl
theorem aF4 {yes no:List A → Option R}:CI none s yes no = yes s:=rfl
theorem aFM {t:Nat} {w:Bool} {yes no:List A → Option R}:CI (some (some t,w)) s yes no = match s.getD t .junk with
  | .d (.bool b) => if b = w then (match box (s.set t (.d (.bool w))) with | .no => none | .mk s => yes s) else (match box (s.set t (.d (.bool (!w)))) with | .no => none | .mk s => no s)
  | .d .undef => no s
  | _ => none:=by
 simp only [CI,List.getD_eq_getElem?_getD]
 cases s[t]? with
 | none => rfl
 | some a =>
  cases a with
  | d x => cases x <;> rfl
  | _ => rfl
theorem aOm {x:Operand}:kOp E call thaw dst (.move x) s h k = kv s x fun a => k a h:=by
 unfold kOp kvs kv
 simp only [opds,cO]
 cases dN s x <;> rfl
def kAsg (thaw:List Nat) (dst:Option Tmp) (h:H) (k:A → H → Option R) (a:A):Option R :=
 match a with
 | .d .nils => match H8 thaw dst with
  | 0 => k (.d .nils) h
  | e + 1 => if e < 1000 then k (.sl h.length 0 0 0) (h ++ [.arr [] e 0]) else k (.sl h.length 0 0 0) (h ++ [.vec [] (e - 1000) 0])
 | a => k a h
theorem aAh {t:Nat}:kOp E call thaw dst (.assign (.tmp t)) s h k = match box (s.getD t (.d .undef)) with | .no => none | .mk a => k a h:=by
 unfold kOp kvs
 simp only [opds,cO,dN,b5,Bool.false_eq_true,if_false]
 rfl
theorem RG {v:Value}:kOp E call thaw dst (.assign (.const v)) s h k = kv s (.const v) (kAsg thaw dst h k):=by
 unfold kOp kvs kv kAsg
 simp only [opds,cO]
 cases dN s (.const v) with
 | none => rfl
 | some a =>
  simp only [b5,Bool.false_eq_true,if_false,evOp,one,dR,mP]
  cases a with
  | d x =>
   cases x with
   | nils => cases ht:H8 thaw dst with
    | zero => simp [ht]
    | succ e => by_cases he:e < 1000 <;> simp [ht,he]
   | _ => rfl
  | _ => rfl
theorem WN {f:FuncId}:kOp E call thaw dst (.assign (.func f)) s h k = k (.clo f []) h:=by
 rfl
def kRet (r:Option (A × H)) (k:A → H → Option R):Option R :=
 match r with
 | some (a,h') => k a h'
 | none => none
theorem aQm {op:BinOp} {t:TypeId} {x y:Operand} {t2:TypeId}:kOp E call thaw dst (.binOp op t x y t2) s h k = kv s x fun a => kv s y fun b => kRet (cY E op t h a b) k:=by
 unfold kOp kvs kv kRet
 simp only [opds,cO]
 cases dN s x with
 | none => rfl
 | some a => cases dN s y <;> rfl
theorem aVr {op:UnOp} {t:TypeId} {x:Operand}:kOp E call thaw dst (.unOp op t x) s h k = kv s x fun a => kRet ((aUn op a).map fun r => (r,h)) k:=by
 unfold kOp kvs kv kRet
 simp only [opds,cO]
 cases dN s x <;> rfl
theorem aO2 {c x y:Operand}:kOp E call thaw dst (.pick c x y) s h k = kv s c fun b => kv s x fun a => kv s y fun a' => kRet (ZK h [b,a,a']) k:=by
 unfold kOp kvs kv kRet
 simp only [opds,cO]
 cases dN s c with
 | none => rfl
 | some b => cases dN s x with
  | none => rfl
  | some a => cases dN s y <;> rfl
theorem aC9 {x:Operand}:kOp E call thaw dst (.nilCheck x) s h k = kv s x fun a => kRet (lF h a) k:=by
 unfold kOp kvs kv kRet
 simp only [opds,cO]
 cases dN s x <;> rfl
theorem aNE {t u:TypeId} {x:Operand}:kOp E call thaw dst (.convert t u x) s h k = kv s x fun a => kRet (eP E.P h t u a) k:=by
 unfold kOp kvs kv kRet
 simp only [opds,cO]
 cases dN s x <;> rfl
theorem aNO {t:TypeId} {x:Operand}:kOp E call thaw dst (.load t x) s h k = kv s x fun a => kRet ((LY E.P h t a).map fun v => (v,h)) k:=by
 unfold kOp kvs kv kRet
 simp only [opds,cO]
 cases dN s x <;> rfl
theorem aMo {t:TypeId} {x y:Operand}:kOp E call thaw dst (.store t x y) s h k = kv s x fun a => kv s y fun b => kRet ((oZ E.P h t a b).map fun h' => (.d .undef,h')) k:=by
 unfold kOp kvs kv kRet
 simp only [opds,cO]
 cases dN s x with
 | none => rfl
 | some a => cases dN s y <;> rfl
theorem aMx {t:TypeId}:kOp E call thaw dst (.alloc t) s h k = match box (bW E.P t) with
  | .no => none
  | .mk none => none
  | .mk (some z) => kRet (aNew h z) k:=by
 unfold kOp kvs kRet
 simp only [opds,cO,b5,Bool.false_eq_true,if_false,evOp,mP,box]
 cases bW E.P t <;> rfl
theorem aQy {t:TypeId} {x:Operand}:kOp E call thaw dst (.box t x) s h k = kv s x fun a => kRet (aNew h a) k:=by
 unfold kOp kvs kv kRet
 simp only [opds,cO]
 cases dN s x <;> rfl
theorem aML {t:TypeId} {ps:List (Nat × Operand)}:kOp E call thaw dst (.build t ps.toArray) s h k = match box (ps.map (·.2)) with
  | .no => none
  | .mk xs => kvs s xs fun vs => kRet ((kC E.P t ((ps.map (·.1)).zip vs)).map fun a => (a,h)) k:=by
 unfold kOp kRet
 rfl
theorem X3 {t:TypeId} {n:Nat} {ps:List (Nat × Operand)}:kOp E call thaw dst (.buildSlice t n ps.toArray) s h k = match box (ps.map (·.2)) with
  | .no => none
  | .mk xs => kvs s xs fun vs => kRet (if logs thaw dst = true then sQ (qJ E.P h t n ((ps.map (·.1)).zip vs)) else if keeps thaw dst = true then FJ E.P h t n ((ps.map (·.1)).zip vs) else qJ E.P h t n ((ps.map (·.1)).zip vs)) k:=by
 unfold kOp kRet
 rfl
theorem aDv {fn:Fn} {cap:List Operand}:kOp E call thaw dst (.makeFunc fn #[] cap.toArray) s h k = kvs s cap fun vs => kRet (X8 h fn true vs) k:=by
 unfold kOp kRet
 rfl
theorem aBX {t:TypeId} {x y:Operand}:kOp E call thaw dst (.makeSlice t x y) s h k = kv s x fun a => kv s y fun b => kRet (nA a fun l => nA b fun c => if keeps thaw dst = true then D4 E.P h t l c else kM E.P h t l c) k:=by
 unfold kOp kvs kv kRet
 simp only [opds,cO]
 cases dN s x with
 | none => rfl
 | some a => cases dN s y <;> rfl
theorem aGl {t:TypeId} {x:Operand}:kOp E call thaw dst (.slice t x none none none) s h k = kvs s [x] fun vs => kRet (m5 E.P h t false false vs) k:=rfl
theorem aFj {t:TypeId} {x lo:Operand}:kOp E call thaw dst (.slice t x (some lo) none none) s h k = kvs s [x,lo] fun vs => kRet (m5 E.P h t true false vs) k:=rfl
theorem aFQ {t:TypeId} {x hi:Operand}:kOp E call thaw dst (.slice t x none (some hi) none) s h k = kvs s [x,hi] fun vs => kRet (m5 E.P h t false true vs) k:=rfl
theorem aF2 {t:TypeId} {x lo hi:Operand}:kOp E call thaw dst (.slice t x (some lo) (some hi) none) s h k = kvs s [x,lo,hi] fun vs => kRet (m5 E.P h t true true vs) k:=rfl
theorem aB2 {t:TypeId} {x:Operand} {f:Nat}:kOp E call thaw dst (.fieldAddr t x f) s h k = kv s x fun a => kRet ((bF E.P t f).bind fun r => (AU r.1 a).map fun r => (r,h)) k:=by
 unfold kOp kvs kv kRet
 simp only [opds,cO]
 cases dN s x <;> rfl
theorem aMe {t:TypeId} {x:Operand} {f:Nat}:kOp E call thaw dst (.field t x f) s h k = kv s x fun a => kRet (Q4 E.P h t f a) k:=by
 unfold kOp kvs kv kRet
 simp only [opds,cO]
 cases dN s x <;> rfl
theorem aBr {t:TypeId} {x y:Operand}:kOp E call thaw dst (.indexAddr t x y) s h k = kv s x fun a => kv s y fun b => kRet (nA b fun i => (wO E.P h t a i).map fun r => (r,h)) k:=by
 unfold kOp kvs kv kRet
 simp only [opds,cO]
 cases dN s x with
 | none => rfl
 | some a => cases dN s y <;> rfl
theorem aK1 {t:TypeId} {x y:Operand}:kOp E call thaw dst (.index t x y) s h k = kv s x fun a => kv s y fun b => kRet (nA b fun i => (aAc E.P t a i).map fun r => (r,h)) k:=by
 unfold kOp kvs kv kRet
 simp only [opds,cO]
 cases dN s x with
 | none => rfl
 | some a => cases dN s y <;> rfl
theorem aFS {t:TypeId}:kOp E call thaw dst (.makeMap t none) s h k = k (.mp h.length) (h ++ [.mp []]):=rfl
theorem aID {t:TypeId} {x y:Operand} {ok:Bool}:kOp E call thaw dst (.lookup t x y ok) s h k = kv s x fun a => kv s y fun b => kRet (Z6 E.P h t ok a b) k:=by
 unfold kOp kvs kv kRet
 simp only [opds,cO]
 cases dN s x with
 | none => rfl
 | some a => cases dN s y <;> rfl
theorem aBR {t:TypeId} {x y z:Operand}:kOp E call thaw dst (.mapUpdate t x y z) s h k = kv s x fun a => kv s y fun b => kv s z fun c => kRet (wZ E.P h t a b c) k:=by
 unfold kOp kvs kv kRet
 simp only [opds,cO]
 cases dN s x with
 | none => rfl
 | some a => cases dN s y with
  | none => rfl
  | some b => cases dN s z <;> rfl
theorem aFt {x:Operand} {i:Nat}:kOp E call thaw dst (.extract x i) s h k = kv s x fun a => kRet (EU h i a) k:=by
 unfold kOp kvs kv kRet
 simp only [opds,cO]
 cases dN s x <;> rfl
theorem aFg {b:Builtin} {args:List Operand} {tys:List TypeId}:kOp E call thaw dst (.call ⟨.builtin b,args.toArray,tys.toArray⟩) s h k = kvs s args fun vs => kRet (dD E.P h b tys vs) k:=by
 unfold kOp kRet
 rfl
theorem eH {op:Op} {q:A → H → Foot → Option R} (hp:Now (cX op = true ∧ b5 op = false)):kOpD E call thaw dst op s h q = kOp E call thaw dst op s h fun a _ => q a h {}:=by
 obtain ⟨hp,hc⟩:=hp.it
 unfold kOpD kOp kvs
 rw [hp,hc]
 cases cO s (opds op) with
 | none => rfl
 | some vs =>
  simp only [if_true,Bool.false_eq_true,if_false]
def memD (E:Env) (call:b7) (thaw:List Nat) (dst:Option Tmp) (op:Op) (h:H) (vs:List A):Option (A × H × Foot):=match box (aE aJ h (idsL vs) []) with
 | .no => none
 | .mk ord => match box (evOp E call thaw (pack h ord) (mP dst op) (aW (aM ord) vs)) with
  | .mk (some (a,h1)) => if ord.length ≤ h1.length ∧ closed h ord (idsL vs) = true then
    (if (gJ E op vs && h1.length - ord.length == 0) = true then some (mapA (back ord h.length h1.length) a,h,{ ids:=ord,ro:=true })
    else some (mapA (back ord h.length h1.length) a,b9 (back ord h.length h1.length) h ord h1,{ ids:=ord ++ List.range' h.length (h1.length - ord.length),ro:=false,wr:=wrOf E op vs ord ++ List.range' h.length (h1.length - ord.length) }))
   else none
  | _ => none
theorem gI {op:Op} {q:A → H → Foot → Option R} (hp:Now (cX op = false ∧ qR op = false)):kOpD E call thaw dst op s h q = match box (opds op) with | .no => none | .mk xs => kvs s xs fun vs => match box (memD E call thaw dst op h vs) with
  | .mk (some (a,h',c)) => q a h' c
  | _ => none:=by
 simp only [box]
 unfold kOpD kvs
 rw [hp.it.1,hp.it.2]
 cases cO s (opds op) with
 | none => rfl
 | some vs =>
  simp only [Bool.false_eq_true,if_false,rW,memD,box]
  cases evOp E call thaw (pack h (aE aJ h (idsL vs) [])) (mP dst op) (aW (aM (aE aJ h (idsL vs) [])) vs) with
  | none => rfl
  | some r =>
   obtain ⟨a,h1⟩:=r
   by_cases hc:(aE aJ h (idsL vs) []).length ≤ h1.length ∧ closed h (aE aJ h (idsL vs) []) (idsL vs) = true
   ·simp only [if_pos hc]
    by_cases hr:(gJ E op vs && h1.length - (aE aJ h (idsL vs) []).length == 0) = true
    ·simp only [if_pos hr]
    ·simp only [if_neg hr]
   ·simp only [if_neg hc]
theorem NX {op:Op} {q:A → H → Foot → Option R} (hp:Now (cX op = false ∧ qR op = true ∧ b5 op = false)):kOpD E call thaw dst op s h q = kvs s (opds op) fun vs => kOp E call thaw dst op s h fun a _ => q a h { ids:=ids0 vs,ro:=true }:=by
 unfold kOpD kOp kvs
 rw [hp.it.1,hp.it.2.1,hp.it.2.2]
 cases cO s (opds op) with
 | none => rfl
 | some vs => simp only [Bool.false_eq_true,if_false,if_true]
theorem S3 {x:Operand} {xs:List Operand} {op:Op} {q:A → H → Foot → Option R} (hx:opds op = x :: xs):(kvs s (opds op) fun vs => kOp E call thaw dst op s h fun a _ => q a h { ids:=ids0 vs,ro:=true }) = kv s x fun b => kOp E call thaw dst op s h fun a _ => q a h { ids:=idsA b,ro:=true }:=by
 unfold kOp kv
 rw [hx]
 unfold kvs
 simp only [cO]
 cases dN s x with
 | none => rfl
 | some b =>
  cases cO s xs with
  | none => rfl
  | some bs => rfl
theorem aK2 {t:TypeId} {x:Operand} {q:A → H → Foot → Option R}:kOpD E call thaw dst (.load t x) s h q = kv s x fun b => kOp E call thaw dst (.load t x) s h fun a _ => q a h { ids:=idsA b,ro:=true }:=(NX ⟨rfl,rfl,rfl⟩).trans (S3 rfl)
theorem aFr {t:TypeId} {x y:Operand} {ok:Bool} {q:A → H → Foot → Option R}:kOpD E call thaw dst (.lookup t x y ok) s h q = kv s x fun b => kOp E call thaw dst (.lookup t x y ok) s h fun a _ => q a h { ids:=idsA b,ro:=true }:=(NX ⟨rfl,rfl,rfl⟩).trans (S3 rfl)
theorem aEc {t:TypeId} {q:A → H → Foot → Option R}:type_of% (gI (E:=E) (call:=call) (thaw:=thaw) (dst:=dst) (s:=s) (h:=h) (op:=.makeMap t none) (q:=q) ⟨rfl,rfl⟩):=gI ⟨rfl,rfl⟩
theorem YE {t:TypeId} {x y z:Operand} {q:A → H → Foot → Option R}:type_of% (gI (E:=E) (call:=call) (thaw:=thaw) (dst:=dst) (s:=s) (h:=h) (op:=.mapUpdate t x y z) (q:=q) ⟨rfl,rfl⟩):=gI ⟨rfl,rfl⟩
theorem aJu {t:TypeId} {x y:Operand} {q:A → H → Foot → Option R}:type_of% (gI (E:=E) (call:=call) (thaw:=thaw) (dst:=dst) (s:=s) (h:=h) (op:=.store t x y) (q:=q) ⟨rfl,rfl⟩):=gI ⟨rfl,rfl⟩
theorem aFv {x:Operand} {q:A → H → Foot → Option R}:type_of% (gI (E:=E) (call:=call) (thaw:=thaw) (dst:=dst) (s:=s) (h:=h) (op:=.assign x) (q:=q) ⟨rfl,rfl⟩):=gI ⟨rfl,rfl⟩
theorem aIz {t:TypeId} {q:A → H → Foot → Option R}:type_of% (gI (E:=E) (call:=call) (thaw:=thaw) (dst:=dst) (s:=s) (h:=h) (op:=.alloc t) (q:=q) ⟨rfl,rfl⟩):=gI ⟨rfl,rfl⟩
theorem aN8 {t:TypeId} {x:Operand} {q:A → H → Foot → Option R}:type_of% (gI (E:=E) (call:=call) (thaw:=thaw) (dst:=dst) (s:=s) (h:=h) (op:=.box t x) (q:=q) ⟨rfl,rfl⟩):=gI ⟨rfl,rfl⟩
theorem WH {t:TypeId} {n:Nat} {ps:List (Nat × Operand)} {q:A → H → Foot → Option R}:type_of% (gI (E:=E) (call:=call) (thaw:=thaw) (dst:=dst) (s:=s) (h:=h) (op:=.buildSlice t n ps.toArray) (q:=q) ⟨rfl,rfl⟩):=gI ⟨rfl,rfl⟩
theorem aLQ {t u:TypeId} {x:Operand} {q:A → H → Foot → Option R}:type_of% (gI (E:=E) (call:=call) (thaw:=thaw) (dst:=dst) (s:=s) (h:=h) (op:=.convert t u x) (q:=q) ⟨rfl,rfl⟩):=gI ⟨rfl,rfl⟩
theorem XY {t:TypeId} {x y:Operand} {q:A → H → Foot → Option R}:type_of% (gI (E:=E) (call:=call) (thaw:=thaw) (dst:=dst) (s:=s) (h:=h) (op:=.makeSlice t x y) (q:=q) ⟨rfl,rfl⟩):=gI ⟨rfl,rfl⟩
theorem aH1 {t:TypeId} {x:Operand} {lo hi mx:Option Operand} {q:A → H → Foot → Option R}:kOpD E call thaw dst (.slice t x lo hi mx) s h q = kv s x fun b => kOp E call thaw dst (.slice t x lo hi mx) s h fun a _ => q a h { ids:=idsA b,ro:=true }:=(NX ⟨rfl,rfl,rfl⟩).trans (S3 rfl)
theorem YT {t:TypeId} {x y:Operand} {q:A → H → Foot → Option R}:kOpD E call thaw dst (.indexAddr t x y) s h q = kv s x fun b => kOp E call thaw dst (.indexAddr t x y) s h fun a _ => q a h { ids:=idsA b,ro:=true }:=(NX ⟨rfl,rfl,rfl⟩).trans (S3 rfl)
theorem aGi {args tys:Array _} {q:A → H → Foot → Option R}:type_of% (gI (E:=E) (call:=call) (thaw:=thaw) (dst:=dst) (s:=s) (h:=h) (op:=.call ⟨.builtin .append,args,tys⟩) (q:=q) ⟨rfl,rfl⟩):=gI ⟨rfl,rfl⟩
theorem aPc {x:Operand} {xs:List Operand} {tys:Array _} {q:A → H → Foot → Option R}:kOpD E call thaw dst (.call ⟨.builtin .len,(x :: xs).toArray,tys⟩) s h q = kv s x fun b => kOp E call thaw dst (.call ⟨.builtin .len,(x :: xs).toArray,tys⟩) s h fun a _ => q a h { ids:=idsA b,ro:=true }:=(NX ⟨rfl,rfl,rfl⟩).trans (S3 rfl)
theorem aLv {x:Operand} {q:A → H → Foot → Option R}:type_of% (eH (E:=E) (call:=call) (thaw:=thaw) (dst:=dst) (s:=s) (h:=h) (op:=.move x) (q:=q) ⟨rfl,rfl⟩):=eH ⟨rfl,rfl⟩
theorem aKW {c x y:Operand} {q:A → H → Foot → Option R}:type_of% (eH (E:=E) (call:=call) (thaw:=thaw) (dst:=dst) (s:=s) (h:=h) (op:=.pick c x y) (q:=q) ⟨rfl,rfl⟩):=eH ⟨rfl,rfl⟩
theorem aBL {x:Operand} {q:A → H → Foot → Option R}:type_of% (eH (E:=E) (call:=call) (thaw:=thaw) (dst:=dst) (s:=s) (h:=h) (op:=.nilCheck x) (q:=q) ⟨rfl,rfl⟩):=eH ⟨rfl,rfl⟩
theorem aNg {op:BinOp} {t:TypeId} {x y:Operand} {t2:TypeId} {q:A → H → Foot → Option R}:type_of% (eH (E:=E) (call:=call) (thaw:=thaw) (dst:=dst) (s:=s) (h:=h) (op:=.binOp op t x y t2) (q:=q) ⟨rfl,rfl⟩):=eH ⟨rfl,rfl⟩
theorem aP9 {op:UnOp} {t:TypeId} {x:Operand} {q:A → H → Foot → Option R}:type_of% (eH (E:=E) (call:=call) (thaw:=thaw) (dst:=dst) (s:=s) (h:=h) (op:=.unOp op t x) (q:=q) ⟨rfl,rfl⟩):=eH ⟨rfl,rfl⟩
theorem aBu {fn:Fn} {first cap:Array Operand} {q:A → H → Foot → Option R}:type_of% (eH (E:=E) (call:=call) (thaw:=thaw) (dst:=dst) (s:=s) (h:=h) (op:=.makeFunc fn first cap) (q:=q) ⟨rfl,rfl⟩):=eH ⟨rfl,rfl⟩
theorem YS {t:TypeId} {x:Operand} {f:Nat} {q:A → H → Foot → Option R}:type_of% (eH (E:=E) (call:=call) (thaw:=thaw) (dst:=dst) (s:=s) (h:=h) (op:=.fieldAddr t x f) (q:=q) ⟨rfl,rfl⟩):=eH ⟨rfl,rfl⟩
theorem aHM {t:TypeId} {x:Operand} {f:Nat} {q:A → H → Foot → Option R}:type_of% (eH (E:=E) (call:=call) (thaw:=thaw) (dst:=dst) (s:=s) (h:=h) (op:=.field t x f) (q:=q) ⟨rfl,rfl⟩):=eH ⟨rfl,rfl⟩
theorem aH0 {t:TypeId} {x y:Operand} {q:A → H → Foot → Option R}:type_of% (eH (E:=E) (call:=call) (thaw:=thaw) (dst:=dst) (s:=s) (h:=h) (op:=.index t x y) (q:=q) ⟨rfl,rfl⟩):=eH ⟨rfl,rfl⟩
theorem aDn {x:Operand} {i:Nat} {q:A → H → Foot → Option R}:type_of% (eH (E:=E) (call:=call) (thaw:=thaw) (dst:=dst) (s:=s) (h:=h) (op:=.extract x i) (q:=q) ⟨rfl,rfl⟩):=eH ⟨rfl,rfl⟩
theorem aIi {t:TypeId} {ps:Array (Nat × Operand)} {q:A → H → Foot → Option R}:type_of% (eH (E:=E) (call:=call) (thaw:=thaw) (dst:=dst) (s:=s) (h:=h) (op:=.build t ps) (q:=q) ⟨rfl,rfl⟩):=eH ⟨rfl,rfl⟩
def aO3 (a b:Foot):Bool:=(!a.ro && (!b.ids.isEmpty && a.wr.any b.ids.contains)) || (!b.ro && (!a.ids.isEmpty && b.wr.any a.ids.contains))
theorem aLF (a b:Foot):aO3 a b = iM a b:=by
 obtain ⟨ia,ra,wa⟩:=a
 obtain ⟨ib,rb,wb⟩:=b
 unfold aO3 iM
 cases ia <;> cases ib <;> simp
def sV (ops:List Oper) (cs:List Foot):Bool :=
 let b:=F6 ops []
 (List.range cs.length).all fun j => (List.range j).all fun i => (b.getD j 0).testBit i || !aO3 (cs.getD i {}) (cs.getD j {})
theorem aC7 {src:List Oper} {cs:List Foot} (h:qK src cs = true):sV src cs = true:=by
 unfold sV
 simp only [aLF]
 exact h
theorem aI5 {src:List Oper} {cs:List Foot} {x:Option R} (hc:Shut (sV src cs = true)):(if qK src cs = true then x else none) = x:=if_pos (by
 have:=hc.it
 unfold sV at this
 simp only [aLF] at this
 exact this)
theorem aNK {q:List A → H → Option R}:kOps E call thaw [] s h q = q s h:=rfl
theorem aMu {op:Op} {g:Option (Option Tmp × Bool)} {os:List SO} {q:List A → H → Option R}:kOps E call thaw (⟨dst,op,g⟩ :: os) s h q = CI g s
  (fun s => kOp E call thaw dst op s h fun a h' => match box (aPut s dst a) with | .no => none | .mk s' => kOps E call thaw os s' h' q)
  (fun s => match box (aPut s dst (.d .undef)) with | .no => none | .mk s' => kOps E call thaw os s' h q):=rfl
theorem aLg {cs:List Foot} {q:List A → H → List Foot → Option R}:DI E call thaw [] s h cs q = q s h cs:=rfl
theorem aHK {op:Op} {g:Option (Option Tmp × Bool)} {os:List SO} {cs:List Foot} {q:List A → H → List Foot → Option R}:DI E call thaw (⟨dst,op,g⟩ :: os) s h cs q = CI g s
  (fun s => kOpD E call thaw dst op s h fun a h' c => match box (aPut s dst a) with | .no => none | .mk s' => DI E call thaw os s' h' (cs ++ [c]) q)
  (fun s => match box (aPut s dst (.d .undef)) with | .no => none | .mk s' => DI E call thaw os s' h (cs ++ [{}]) q):=rfl
section
variable {L nf:Nat} {live:List Bool} {lp:Nat → Code} {q:Exit → List A → H → Option R}
theorem aIV:aD E call L nf thaw live lp .skip s h q = q .normal s h:=rfl
theorem aMj {l:List SO}:aD E call L nf thaw live lp (.ops l) s h q = kOps E call thaw l s h fun s h => q .normal s h:=rfl
theorem aGf {l:List SO} {src:Array Oper}:aD E call L nf thaw live lp (.drawn l src) s h q = DI E call thaw l s h [] fun s h cs => if qK src.toList cs = true then q .normal s h else none:=rfl
theorem aMg {a b:SC}:aD E call L nf thaw live lp (.seq a b) s h q = aD E call L nf thaw live lp a s h fun e s h => match e with
  | .normal => aD E call L nf thaw live lp b s h q
  | e => q e s h:=rfl
theorem aIe {c:Operand} {x y:SC}:aD E call L nf thaw live lp (.cond c x y) s h q = kv s c fun a => match a with
  | .d (.bool b) => if b = true then aD E call L nf thaw live lp x s h q else aD E call L nf thaw live lp y s h q
  | _ => none:=rfl
theorem aFR {id:Nat} {c:SC}:aD E call L nf thaw live lp (.block id c) s h q = aD E call L nf thaw live lp c s h fun e s h => match e with
  | .exit i => if i = id then q .normal s h else q (.exit i) s h
  | e => q e s h:=rfl
theorem aHD {i:Nat}:aD E call L nf thaw live lp (.loop i) s h q = match box (tU live s) with
  | .no => none
  | .mk m => match box (gc nf m s h) with
   | .mk (s',h') => aF E call L nf thaw live (lp i) m L s' h' q
   | .no => none:=rfl
theorem aJ0 {id:Nat}:aD E call L nf thaw live lp (.exit id) s h q = q (.exit id) s h:=rfl
theorem aLB:aD E call L nf thaw live lp .ret s h q = q .ret s h:=rfl
theorem aDf {c:Code} {m:List Bool} {n:Nat}:bK E call L nf thaw live c m n q .normal s h = match box (gc nf m s h) with
  | .mk (s',h') => aF E call L nf thaw live c m n s' h' q
  | .no => none:=rfl
theorem aJr {c:Code} {m:List Bool} {n i:Nat}:bK E call L nf thaw live c m n q (.exit i) s h = match box (gc nf m s h) with
  | .mk (s',h') => q (.exit i) s' h'
  | .no => none:=rfl
theorem aMK {c:Code} {m:List Bool} {n:Nat}:bK E call L nf thaw live c m n q .ret s h = match box (gc nf m s h) with
  | .mk (s',h') => q .ret s' h'
  | .no => none:=rfl
end
def bC (E:Env) (call:b7) (h:H) (f:FuncId) (args:List A) (k:A → H → Option R):Option R :=
 match eN call E.hint (pack h (aE aJ h (idsL args) [])) f (aW (aM (aE aJ h (idsL args) [])) args) with
 | some (a,h1) =>
  if (aE aJ h (idsL args) []).length ≤ h1.length ∧ closed h (aE aJ h (idsL args) []) (idsL args) = true then
   k (mapA (back (aE aJ h (idsL args) []) h.length h1.length) a) (b9 (back (aE aJ h (idsL args) []) h.length h1.length) h (aE aJ h (idsL args) []) h1)
  else none
 | none => none
theorem aXP {f:FuncId} {args:List Operand} {tys:Array TypeId}:kOp E call thaw dst (.call ⟨.value (.func f),args.toArray,tys⟩) s h k = kvs s args fun vs => bC E call h f vs k:=by
 unfold kOp kvs bC
 simp only [opds,cO,dN]
 cases cO s args with
 | none => rfl
 | some vs =>
  simp only [b5,if_true,rW,idsL,idsA,List.nil_append,aW,mapA,evOp,j9,m7,mP,List.append_nil]
  cases eN call E.hint (pack h (aE aJ h (idsL vs) [])) f (aW (aM (aE aJ h (idsL vs) [])) vs) with
  | none => rfl
  | some r =>
   obtain ⟨a,h1⟩:=r
   by_cases c1:(aE aJ h (idsL vs) []).length ≤ h1.length <;> by_cases c2:closed h (aE aJ h (idsL vs) []) (idsL vs) = true <;> simp [c1,c2]
theorem aMF {f:FuncId} {args:List Operand} {tys:Array TypeId}:kOp E call thaw dst (.call ⟨.value (.func f),args.toArray,tys⟩) s h k = kvs s args fun vs => bC E call h f vs fun a h' => match box h' with | .no => none | .mk h'' => k a h'':=by
 rw [aXP]
 rfl
def HO (E:Env) (call:b7) (h:H) (f:FuncId) (caps args:List A) (k:A → H → Option R):Option R :=
 match eN call E.hint (pack h (aE aJ h (idsL caps ++ idsL args) [])) f (aW (aM (aE aJ h (idsL caps ++ idsL args) [])) args ++ aW (aM (aE aJ h (idsL caps ++ idsL args) [])) caps) with
 | some (a,h1) =>
  if (aE aJ h (idsL caps ++ idsL args) []).length ≤ h1.length ∧ closed h (aE aJ h (idsL caps ++ idsL args) []) (idsL caps ++ idsL args) = true then
   k (mapA (back (aE aJ h (idsL caps ++ idsL args) []) h.length h1.length) a) (b9 (back (aE aJ h (idsL caps ++ idsL args) []) h.length h1.length) h (aE aJ h (idsL caps ++ idsL args) []) h1)
  else none
 | none => none
def uT (E:Env) (call:b7) (h:H) (g:A) (args:List A) (k:A → H → Option R):Option R :=
 match g with
 | .d (.fn f caps) => bC E call h f (args ++ caps.map .d) k
 | .clo f caps => HO E call h f caps args k
 | _ => none
theorem zZ:∀ (as bs:List A),idsL (as ++ bs) = idsL as ++ idsL bs
 | [],bs => by simp [idsL]
 | a :: as,bs => by simp [idsL,zZ as bs]
theorem aNS:∀ (ds:List D),idsL (ds.map .d) = []
 | [] => by simp [idsL]
 | d :: ds => by simp [idsL,idsA,aNS ds]
theorem NL {f:Nat → Option Nat}:∀ (as bs:List A),aW f (as ++ bs) = aW f as ++ aW f bs
 | [],bs => by simp [aW]
 | a :: as,bs => by simp [aW,NL as bs]
theorem aKb {f:Nat → Option Nat}:∀ (ds:List D),aW f (ds.map .d) = ds.map .d
 | [] => by simp [aW]
 | d :: ds => by simp [aW,mapA,aKb ds]
theorem aSz {g:A} {vs:List A} {tys:Array TypeId} {x:Operand} {args:Array Operand}:(match rW E call thaw h (mP dst (.call ⟨.value x,args,tys⟩)) (g :: vs) with
   | some (a,h',_) => k a h'
   | none => none) = uT E call h g vs k:=by
 unfold rW
 simp only [evOp,j9,mP,aW]
 cases g with
 | d y =>
  cases y with
  | fn f caps =>
   simp only [uT,bC,mapA,m7,idsL,idsA,List.nil_append,zZ,aNS,List.append_nil,NL,aKb]
   cases eN call E.hint (pack h (aE aJ h (idsL vs) [])) f (aW (aM (aE aJ h (idsL vs) [])) vs ++ caps.map .d) with
   | none => rfl
   | some r =>
    obtain ⟨a,h1⟩:=r
    by_cases c1:(aE aJ h (idsL vs) []).length ≤ h1.length <;> by_cases c2:closed h (aE aJ h (idsL vs) []) (idsL vs) = true <;> simp [c1,c2]
  | _ => simp only [uT,mapA,m7]
 | clo f caps =>
  simp only [uT,HO,mapA,m7,idsL,idsA]
  cases eN call E.hint (pack h (aE aJ h (idsL caps ++ idsL vs) [])) f (aW (aM (aE aJ h (idsL caps ++ idsL vs) [])) vs ++ aW (aM (aE aJ h (idsL caps ++ idsL vs) [])) caps) with
  | none => rfl
  | some r =>
   obtain ⟨a,h1⟩:=r
   by_cases c1:(aE aJ h (idsL caps ++ idsL vs) []).length ≤ h1.length <;> by_cases c2:closed h (aE aJ h (idsL caps ++ idsL vs) []) (idsL caps ++ idsL vs) = true <;> simp [c1,c2]
 | sl id gen off len =>
  simp only [uT,mapA]
  cases aM (aE aJ h (idsL (A.sl id gen off len :: vs)) []) id <;> rfl
 | ptr id gen off =>
  simp only [uT,mapA]
  cases aM (aE aJ h (idsL (A.ptr id gen off :: vs)) []) id <;> rfl
 | mp id =>
  simp only [uT,mapA]
  cases aM (aE aJ h (idsL (A.mp id :: vs)) []) id <;> rfl
 | agg cs => simp only [uT,mapA,m7]
 | tup cs => simp only [uT,mapA,m7]
 | junk => simp only [uT,mapA,m7]
theorem aMB {t:Nat} {args:List Operand} {tys:Array TypeId}:kOp E call thaw dst (.call ⟨.value (.tmp t),args.toArray,tys⟩) s h k = match box (s.getD t (.d .undef)) with
  | .no => none
  | .mk g => kvs s args fun vs => uT E call h g vs k:=by
 unfold kOp kvs
 simp only [opds,cO,dN,box]
 cases cO s args with
 | none => rfl
 | some vs => simp only [b5,if_true]; exact aSz
theorem aMM {f:FuncId} {caps:List D} {vs:List A}:uT E call h (.d (.fn f caps)) vs k = match box (vs ++ caps.map .d) with | .no => none | .mk as' => bC E call h f as' k:=rfl
theorem aIs {f:FuncId} {caps vs:List A}:uT E call h (.clo f caps) vs k = HO E call h f caps vs k:=rfl
theorem aIh {f:FuncId} {vs:List A}:HO E call h f [] vs k = bC E call h f vs k:=by
 unfold HO bC
 simp only [idsL,List.nil_append,aW,List.append_nil]
 rfl
theorem aG8 {h:H} {ids:List Nat} {h1:H} {ord:List Nat}:∀ (ord:List Nat) (h h1:H) (f:Nat → Option Nat),ord.length ≤ h1.length → (b9 f h ord h1).length = h.length + (h1.length - ord.length)
 | [],h,h1,f,_ => by simp [b9]
 | i :: ord,h,[],f,hl => by simp at hl
 | i :: ord,h,o :: h1,f,hl => by
  simp only [b9,aG8 (h:=h) (ids:=ids) (h1:=h1) (ord:=ord) ord _ h1 f (by simpa using hl),List.length_set,List.length_cons]
  omega
def wrC (E:Env) (f:FuncId) (ord:List Nat):List Nat:=if (E.hint f).mode == 3 then [] else ord
def qD (E:Env) (f:FuncId) (h h':H) (ord:List Nat):Option (H × Foot):=if ((E.hint f).mode == 1 && h'.length - h.length == 0) = true then some (h,{ ids:=ord,ro:=true }) else some (h',{ ids:=ord ++ List.range' h.length (h'.length - h.length),ro:=false,wr:=wrC E f ord ++ List.range' h.length (h'.length - h.length) })
theorem aSk {f:FuncId} {args:List Operand} {tys:Array TypeId} {q:A → H → Foot → Option R}:kOpD E call thaw dst (.call ⟨.value (.func f),args.toArray,tys⟩) s h q = kvs s args fun vs => match box (aE aJ h (idsL vs) []) with
  | .no => none
  | .mk ord => bC E call h f vs fun a h' => if ((E.hint f).mode == 1 && h'.length - h.length == 0) = true then q a h { ids:=ord,ro:=true } else q a h' { ids:=ord ++ List.range' h.length (h'.length - h.length),ro:=false,wr:=wrC E f ord ++ List.range' h.length (h'.length - h.length) }:=by
 unfold kOpD kvs bC
 simp only [opds,cO,dN,box]
 cases cO s args with
 | none => rfl
 | some vs =>
  simp only [cX,qR,Bool.false_eq_true,if_false,rW,idsL,idsA,List.nil_append,aW,mapA,evOp,j9,m7,mP,List.append_nil,gJ]
  cases eN call E.hint (pack h (aE aJ h (idsL vs) [])) f (aW (aM (aE aJ h (idsL vs) [])) vs) with
  | none => rfl
  | some r =>
   obtain ⟨a,h1⟩:=r
   by_cases c1:(aE aJ h (idsL vs) []).length ≤ h1.length
   ·by_cases c2:closed h (aE aJ h (idsL vs) []) (idsL vs) = true
    ·have e:=aG8 (h:=h) (ids:=idsL vs) (h1:=h1) (ord:=[]) (aE aJ h (idsL vs) []) h h1 (back (aE aJ h (idsL vs) []) h.length h1.length) c1
     have e2:(b9 (back (aE aJ h (idsL vs) []) h.length h1.length) h (aE aJ h (idsL vs) []) h1).length - h.length = h1.length - (aE aJ h (idsL vs) []).length:=by omega
     simp only [c1,c2,and_self,if_true,e2]
     first | done | rfl | (by_cases c3:((E.hint f).mode == 1 && h1.length - (aE aJ h (idsL vs) []).length == 0) = true <;> simp [c3])
    ·simp only [c2,and_false,if_false,Bool.false_eq_true]
   ·simp only [c1,false_and,if_false]
theorem aEb {f:FuncId} {args:List Operand} {tys:Array TypeId} {q:A → H → Foot → Option R}:kOpD E call thaw dst (.call ⟨.value (.func f),args.toArray,tys⟩) s h q = kvs s args fun vs => match box (aE aJ h (idsL vs) []) with
  | .no => none
  | .mk ord => bC E call h f vs fun a h' => match box (qD E f h h' ord) with | .mk (some (h'',c)) => q a h'' c | _ => none:=by
 rw [aSk]
 congr 1
 funext vs
 simp only [box]
 congr 1
 funext a h'
 unfold qD
 by_cases hc:((E.hint f).mode == 1 && h'.length - h.length == 0) = true
 ·simp only [if_pos hc]
 ·simp only [if_neg hc]
theorem aPH {t:Nat} {args:List Operand} {tys:Array TypeId} {q:A → H → Foot → Option R} {f:FuncId} {caps:List D} (hg:Now (s.getD t (.d .undef) = .d (.fn f caps))):kOpD E call thaw dst (.call ⟨.value (.tmp t),args.toArray,tys⟩) s h q = kvs s args fun vs => match box (aE aJ h (idsL vs) []) with
  | .no => none
  | .mk ord => bC E call h f (vs ++ caps.map .d) fun a h' => if ((E.hint f).mode == 1 && h'.length - h.length == 0) = true then q a h { ids:=ord,ro:=true } else q a h' { ids:=ord ++ List.range' h.length (h'.length - h.length),ro:=false,wr:=wrC E f ord ++ List.range' h.length (h'.length - h.length) }:=by
 have hg:=hg.it
 unfold kOpD kvs bC
 simp only [opds,cO,dN,box,hg]
 cases cO s args with
 | none => rfl
 | some vs =>
  simp only [cX,qR,Bool.false_eq_true,if_false,rW,idsL,idsA,List.nil_append,aW,mapA,evOp,j9,m7,mP,List.append_nil,gJ,zZ,aNS,NL,aKb]
  cases eN call E.hint (pack h (aE aJ h (idsL vs) [])) f (aW (aM (aE aJ h (idsL vs) [])) vs ++ caps.map .d) with
  | none => rfl
  | some r =>
   obtain ⟨a,h1⟩:=r
   by_cases c1:(aE aJ h (idsL vs) []).length ≤ h1.length
   ·by_cases c2:closed h (aE aJ h (idsL vs) []) (idsL vs) = true
    ·have e:=aG8 (h:=h) (ids:=idsL vs) (h1:=h1) (ord:=[]) (aE aJ h (idsL vs) []) h h1 (back (aE aJ h (idsL vs) []) h.length h1.length) c1
     have e2:(b9 (back (aE aJ h (idsL vs) []) h.length h1.length) h (aE aJ h (idsL vs) []) h1).length - h.length = h1.length - (aE aJ h (idsL vs) []).length:=by omega
     simp only [c1,c2,and_self,if_true,e2]
     first | done | rfl | (by_cases c3:((E.hint f).mode == 1 && h1.length - (aE aJ h (idsL vs) []).length == 0) = true <;> simp [c3])
    ·simp only [c2,and_false,if_false,Bool.false_eq_true]
   ·simp only [c1,false_and,if_false]
def a0C (E:Env) (call:b7) (thaw:List Nat) (dst:Option Tmp) (op:Op) (s:List A) (h:H) (q:A → H → Foot → Option R):Option R:=kOpD E call thaw dst op s h q
theorem aJk {t:Nat} {args:List Operand} {tys:Array TypeId} {q:A → H → Foot → Option R}:kOpD E call thaw dst (.call ⟨.value (.tmp t),args.toArray,tys⟩) s h q = match box (s.getD t (.d .undef)) with
  | .mk (.d (.fn f caps)) => kvs s args fun vs => match box (aE aJ h (idsL vs) []) with
   | .no => none
   | .mk ord => match box (vs ++ caps.map .d) with | .no => none | .mk as' => bC E call h f as' fun a h' => match box (qD E f h h' ord) with | .mk (some (h'',c)) => q a h'' c | _ => none
  | .mk (.clo f []) => kvs s args fun vs => match box (aE aJ h (idsL vs) []) with
   | .no => none
   | .mk ord => bC E call h f vs fun a h' => match box (qD E f h h' ord) with | .mk (some (h'',c)) => q a h'' c | _ => none
  | _ => a0C E call thaw dst (.call ⟨.value (.tmp t),args.toArray,tys⟩) s h q:=by
 have key:=fun (f:FuncId) (caps:List D) hg => aPH (E:=E) (call:=call) (thaw:=thaw) (dst:=dst) (s:=s) (h:=h) (t:=t) (args:=args) (tys:=tys) (q:=q) (f:=f) (caps:=caps) hg
 have k2:∀ f,s.getD t (.d .undef) = .clo f [] → kOpD E call thaw dst (.call ⟨.value (.tmp t),args.toArray,tys⟩) s h q = kOpD E call thaw dst (.call ⟨.value (.func f),args.toArray,tys⟩) s h q:=by
  intro f hg
  unfold kOpD kvs
  simp only [opds,cO,dN,hg]
  cases cO s args <;> rfl
 have fold:∀ (f:FuncId) (h h':H) (ord:List Nat) (a:A),(if ((E.hint f).mode == 1 && h'.length - h.length == 0) = true then q a h { ids:=ord,ro:=true } else q a h' { ids:=ord ++ List.range' h.length (h'.length - h.length),ro:=false,wr:=wrC E f ord ++ List.range' h.length (h'.length - h.length) }) = match box (qD E f h h' ord) with | .mk (some (h'',c)) => q a h'' c | _ => none:=by
  intro f h h' ord a
  unfold qD
  by_cases hc:((E.hint f).mode == 1 && h'.length - h.length == 0) = true
  ·simp only [if_pos hc,box]
  ·simp only [if_neg hc,box]
 generalize hs:s.getD t (.d .undef) = a
 cases a with
 | d x =>
  cases x with
  | fn f caps =>
   rw [key f caps ⟨hs⟩]
   simp only [fold]
   rfl
  | _ => rfl
 | clo f caps =>
  cases caps with
  | nil => rw [k2 f hs]; exact aEb
  | cons c caps => rfl
 | _ => rfl
theorem aA9 (n:Nat) (h:H):aE n h [] [] = []:=by cases n <;> rfl
mutual
theorem NR {f:Nat → Option Nat}:∀ a:A,idsA a = [] → mapA f a = a
 | .d x,_ => by simp only [mapA]
 | .sl id gen off len,h => by simp [idsA] at h
 | .ptr id gen off,h => by simp [idsA] at h
 | .mp id,h => by simp [idsA] at h
 | .clo g caps,h => by simp only [idsA] at h; simp only [mapA]; rw [w5 caps h]
 | .agg cs,h => by simp only [idsA] at h; simp only [mapA]; rw [w5 cs h]
 | .tup cs,h => by simp only [idsA] at h; simp only [mapA]; rw [w5 cs h]
 | .junk,_ => by simp only [mapA]
theorem w5 {f:Nat → Option Nat}:∀ as:List A,idsL as = [] → aW f as = as
 | [],_ => by simp only [aW]
 | a :: as,h => by
  simp only [idsL,List.append_eq_nil_iff] at h
  simp only [aW]
  rw [NR a h.1,w5 as h.2]
end
theorem aSR {a:A} (h:wK a = true):idsA a = []:=by
 cases a with
 | d x => rfl
 | agg cs =>
  simp only [wK] at h
  simp only [idsA]
  induction cs with
  | nil => rfl
  | cons c cs ih =>
   simp only [List.all_cons,Bool.and_eq_true] at h
   simp only [idsL,ih h.2,List.append_nil]
   cases c <;> first | rfl | simp [isD] at h
 | _ => simp [wK] at h
theorem wE:∀ {as:List A},as.all wK = true → idsL as = []
 | [],_ => rfl
 | a :: as,h => by
  simp only [List.all_cons,Bool.and_eq_true] at h
  simp only [idsL,aSR h.1,wE h.2,List.append_nil]
theorem aJs {h:H}:∀ {cs:List A},cs.all isD = true → ∃ ds,frzL h cs = some (ds,h) ∧ ds.map .d = cs
 | [],_ => ⟨[],rfl,rfl⟩
 | c :: cs,hs => by
  simp only [List.all_cons,Bool.and_eq_true] at hs
  obtain ⟨ds,h1,h2⟩:=aJs (h:=h) hs.2
  cases c with
  | d x =>
   refine ⟨x :: ds,?_,by simp [h2]⟩
   unfold frzL at h1 ⊢
   simp only [iV]
   have:frz deep h (.d x) = some (x,h):=rfl
   rw [this]
   simp only [h1]
  | _ => simp [isD] at hs
theorem xS {h:H}:∀ {as:List A},as.all wK = true → l6 h as = some (as,h)
 | [],_ => rfl
 | a :: as,hs => by
  simp only [List.all_cons,Bool.and_eq_true] at hs
  have ha:frzA h a = some (a,h):=by
   cases a with
   | d x => rfl
   | agg cs =>
    obtain ⟨ds,h1,h2⟩:=aJs (h:=h) (cs:=cs) (by simpa only [wK] using hs.1)
    simp only [frzA,h1,h2]
   | _ => simp [wK] at hs
  simp only [l6,ha,xS hs.2]
theorem aP2 {r:A} (h:m4 r = true):sZ r = true ∧ mapA (fun k => back [] 0 0 k) r = r:=by
 cases r with
 | d x => cases x <;> first | exact ⟨rfl,rfl⟩ | simp [m4] at h
 | tup vs =>
  simp only [m4] at h
  have key:pJ vs = true ∧ aW (fun k => back [] 0 0 k) vs = vs:=by
   induction vs with
   | nil => exact ⟨rfl,by simp only [aW]⟩
   | cons v vs ih =>
    simp only [List.all_cons,Bool.and_eq_true] at h
    obtain ⟨i1,i2⟩:=ih h.2
    cases v with
    | d x => cases x <;> first | (exfalso; simp at h; done) | (refine ⟨by simp only [pJ,sZ,CG,i1,Bool.and_self],by simp only [aW,mapA,i2]⟩)
    | _ => simp at h
  exact ⟨by simp only [sZ]; exact key.1,by simp only [mapA,key.2]⟩
 | _ => simp [m4] at h
theorem aPF {f:FuncId} {args:List A} {r:A} (hs:args.all wK = true) (hc:call f args [] = some (r,[])) (hp:m4 r = true ∨ ((E.hint f).mode == 1 || (E.hint f).mode == 3) = false):eN call E.hint [] f args = some (r,[]):=by
 unfold eN
 split
 ·exact hc
 ·rename_i hm
  rw [xS hs]
  simp only [hc]
  rcases hp with hp | hp
  ·rw [hp]; rfl
  ·rw [hm] at hp; cases hp
 ·rename_i hm
  rw [xS hs]
  simp only [hc]
  rcases hp with hp | hp
  ·obtain ⟨h1,h2⟩:=aP2 hp
   rw [h1]
   simp only [List.all_nil,Bool.and_self,if_true,List.length_nil,List.map_nil,List.append_nil]
   exact congrArg (fun x => some (x,([]:H))) h2
  ·rw [hm] at hp; cases hp
 ·rw [xS hs]
  simp only [hc]
theorem eR {f:FuncId} {args:List A} {r:A} (hs:args.all wK = true) (hc:call f args [] = some (r,[])) (hr:idsA r = []) (hp:m4 r = true ∨ ((E.hint f).mode == 1 || (E.hint f).mode == 3) = false):bC E call h f args k = k r h:=by
 unfold bC
 rw [wE hs,aA9,w5 _ (wE hs)]
 have:pack h [] = []:=rfl
 rw [this,aPF hs hc hp]
 simp only [List.length_nil,Nat.le_refl,true_and,closed,List.all_nil,Bool.and_self,if_true,NR r hr,b9,List.map_nil,List.append_nil]
def tN (call:b7) (f:FuncId) (args:List A) (k:A → Option R):Option R :=
 match call f args [] with
 | some (r,[]) => if m4 r = true then k r else none
 | _ => none
theorem mN {f:FuncId} {args:List A} {r:A} {k:A → Option R} (hc:call f args [] = some (r,[])) (hp:m4 r = true):tN call f args k = k r:=by
 unfold tN
 rw [hc]
 simp only [hp,if_true]
theorem aWg {r:A} (h:m4 r = true):idsA r = []:=by
 cases r with
 | d x => rfl
 | tup vs =>
  simp only [m4] at h
  simp only [idsA]
  induction vs with
  | nil => rfl
  | cons v vs ih =>
   simp only [List.all_cons,Bool.and_eq_true] at h
   simp only [idsL,ih h.2,List.append_nil]
   cases v with
   | d x => rfl
   | _ => simp at h
 | _ => simp [m4] at h
theorem aTp (ord:List Nat) (n:Nat):back ord n ord.length = fun k => ord[k]?:=by
 funext k
 unfold back
 split
 ·rfl
 ·rename_i h
  rw [List.getElem?_eq_none (by omega)]
theorem aO6 {h:H} {ord ids:List Nat} (hc:closed h ord ids = true) (hn:ord.Nodup) (hl:∀ i ∈ ord,i < h.length):b9 (fun (k:Nat) => ord[k]?) h ord (pack h ord) = h:=by
 apply List.ext_getElem?
 intro id
 rw [W5 _ ord h _ id hn hl (by simp [pack])]
 cases hp:aM ord id with
 | none =>
  simp only []
  split
  ·rfl
  ·rename_i hge
   rw [List.getElem?_eq_none (by simp [pack]),List.getElem?_eq_none (by omega)]
   rfl
 | some k =>
  simp only []
  have hm:=aMl hp
  obtain ⟨o,ho⟩:∃ o,h[id]? = some o:=⟨h[id]'(hl id hm),List.getElem?_eq_getElem _⟩
  rw [xX (cZ hp) ho,ho,Option.map_some,aK8 hc hm ho]
theorem aPS {f:FuncId} {args:List A} (hm:(E.hint f).mode = 1):bC E call h f args k = match box (aE aJ h (idsL args) []) with
  | .no => none
  | .mk ord => match box (l6 (pack h ord) (aW (aM ord) args)) with
   | .mk (some (fs,_)) => if closed h ord (idsL args) = true then tN call f fs fun r => k r h else none
   | _ => none:=by
 unfold bC eN
 rw [hm]
 simp only [box]
 cases hf:l6 (pack h (aE aJ h (idsL args) [])) (aW (aM (aE aJ h (idsL args) [])) args) with
 | none => rfl
 | some r =>
  obtain ⟨fs,h1⟩:=r
  simp only [tN]
  cases hc:call f fs [] with
  | none => simp
  | some r =>
   obtain ⟨a,h2⟩:=r
   cases h2 with
   | cons o h2 => simp
   | nil =>
    simp only []
    by_cases hp:m4 a = true
    ·simp only [hp,if_true]
     have hlen:(pack h (aE aJ h (idsL args) [])).length = (aE aJ h (idsL args) []).length:=by simp [pack]
     simp only [hlen,Nat.le_refl,true_and]
     by_cases hcl:closed h (aE aJ h (idsL args) []) (idsL args) = true
     ·simp only [hcl,if_true,aTp,NR a (aWg hp)]
      rw [aO6 hcl (gQ aJ h (idsL args) [] (by simp)) (pV aJ h (idsL args) [] (by simp))]
     ·simp only [hcl,Bool.false_eq_true,if_false]
    ·simp only [hp,Bool.false_eq_true,if_false]
     simp
def WL (h:H) (args:List A):Option (List A):=match box (aE aJ h (idsL args) []) with
 | .no => none
 | .mk ord => match box (l6 (pack h ord) (aW (aM ord) args)) with
  | .mk (some (fs,_)) => if closed h ord (idsL args) = true then some fs else none
  | _ => none
theorem aC {f:FuncId} {args:List A} (hm:(E.hint f).mode = 1):bC E call h f args k = match box (WL h args) with
  | .mk (some fs) => tN call f fs fun r => k r h
  | _ => none:=by
 rw [aPS hm]
 unfold WL
 simp only [box]
 cases l6 (pack h (aE aJ h (idsL args) [])) (aW (aM (aE aJ h (idsL args) [])) args) with
 | none => rfl
 | some r =>
  obtain ⟨fs,h1⟩:=r
  simp only []
  by_cases hc:closed h (aE aJ h (idsL args) []) (idsL args) = true
  ·simp only [if_pos hc]
  ·simp only [if_neg hc]
theorem aQQ {nf:Nat} {h:H} {ord:List Nat} {s:List A}:trim nf h ord s = match box (pack h ord) with
  | .mk p => (dM nf p (aW (aM ord) s),oM nf p)
  | .no => ([],[]):=rfl
theorem aZl {nf:Nat} {m:List Bool} {s:List A} {h:H}:gc nf m s h = match box (tidy m s) with
  | .mk s1 => match box (iF nf h (idsL s1)) with
   | .mk ord => trim nf h ord s1
   | .no => ([],[])
  | .no => ([],[]):=rfl
theorem aQz {P:Program} {nf:Nat} {exp:Bool} {rs:List ResultVar} {e:Exit} {s:List A} {h:H}:kFin P nf exp rs e s h =
  if kO e then (match qU P s h rs with
   | some rs => match G9 nf exp h rs with
    | some (xs,h2) => match box (iF nf h2 (idsL xs)) with
     | .mk ord => match box (trim nf h2 ord xs) with
      | .mk r => some (tupA r.1,r.2)
      | .no => none
     | .no => none
    | none => none
   | none => none) else none:=rfl
theorem aHZ (nf:Nat) (h:H) (ids:List Nat):iF nf h ids = aE 1099511627776 h (nZ (h.take nf) ++ ids) (List.range nf):=rfl
theorem rng0:List.range 0 = []:=rfl
theorem rng1:List.range 1 = [0]:=rfl
theorem rng2:List.range 2 = [0,1]:=rfl
theorem rng3:List.range 3 = [0,1,2]:=rfl
theorem AC (h:H) (ids:List Nat):iF 0 h ids = aE 1099511627776 h ids []:=by
 unfold iF
 simp only [List.take_zero,nZ,List.nil_append,List.range_zero]
 rfl
theorem aLS (n:Nat) (h:H) (acc:List Nat):aE n h [] acc = acc:=by cases n <;> rfl
theorem aJA (n:Nat) (h:H) (i:Nat) (todo acc:List Nat):aE (n + 1) h (i :: todo) acc = if acc.contains i = true then aE n h todo acc
  else match h.getD i .void with
   | .box cs => aE n h (todo ++ idsL cs) (acc ++ [i])
   | .vec cs _ _ => aE n h (todo ++ idsL cs) (acc ++ [i])
   | .void => aE n h todo acc
   | _ => aE n h todo (acc ++ [i]):=by
 simp only [aE,List.getD_eq_getElem?_getD]
 split
 ·rfl
 ·cases h[i]? with
  | none => rfl
  | some o => cases o <;> rfl
theorem aOi {α:Type} {c:Prop} [Decidable c] {a:α} (hc:c):(if c then some a else none) = some a:=if_pos hc
def iAnd (k:IntKind) (a b:Int):Int:=k.wrap (BitVec.ofInt k.bits a &&& BitVec.ofInt k.bits b).toNat
def iOr (k:IntKind) (a b:Int):Int:=k.wrap (BitVec.ofInt k.bits a ||| BitVec.ofInt k.bits b).toNat
def iXor (k:IntKind) (a b:Int):Int:=k.wrap (BitVec.ofInt k.bits a ^^^ BitVec.ofInt k.bits b).toNat
def aZ9 (k:IntKind) (a b:Int):Int:=k.wrap (BitVec.ofInt k.bits a &&& ~~~BitVec.ofInt k.bits b).toNat
section
variable {t:TypeId} {K:IntKind} {a b:Int}
theorem aK0:cY E .add t h (.d (.int K a)) (.d (.int K b)) = some (.d (.int K (K.wrap (a + b))),h):=by simp [cY,aBin]; rfl
theorem aMk:cY E .sub t h (.d (.int K a)) (.d (.int K b)) = some (.d (.int K (K.wrap (a - b))),h):=by simp [cY,aBin]; rfl
theorem aMn:cY E .mul t h (.d (.int K a)) (.d (.int K b)) = some (.d (.int K (K.wrap (a * b))),h):=by simp [cY,aBin]; rfl
theorem aL5:cY E .and t h (.d (.int K a)) (.d (.int K b)) = some (.d (.int K (iAnd K a b)),h):=by simp [cY,aBin]; rfl
theorem aNs:cY E .or t h (.d (.int K a)) (.d (.int K b)) = some (.d (.int K (iOr K a b)),h):=by simp [cY,aBin]; rfl
theorem aLu:cY E .xor t h (.d (.int K a)) (.d (.int K b)) = some (.d (.int K (iXor K a b)),h):=by simp [cY,aBin]; rfl
theorem aDp:cY E .andNot t h (.d (.int K a)) (.d (.int K b)) = some (.d (.int K (aZ9 K a b)),h):=by simp [cY,aBin]; rfl
theorem aMz:cY E .lss t h (.d (.int K a)) (.d (.int K b)) = some (.d (.bool (decide (a < b))),h):=by simp [cY,aBin]
theorem aMh:cY E .leq t h (.d (.int K a)) (.d (.int K b)) = some (.d (.bool (decide (a ≤ b))),h):=by simp [cY,aBin]
theorem aMd:cY E .gtr t h (.d (.int K a)) (.d (.int K b)) = some (.d (.bool (decide (b < a))),h):=by simp [cY,aBin]
theorem aL2:cY E .geq t h (.d (.int K a)) (.d (.int K b)) = some (.d (.bool (decide (b ≤ a))),h):=by simp [cY,aBin]
theorem aLm:cY E .eql t h (.d (.int K a)) (.d (.int K b)) = some (.d (.bool (decide (a = b))),h):=by simp [cY,aBin]; rfl
theorem aME:cY E .neq t h (.d (.int K a)) (.d (.int K b)) = some (.d (.bool (!decide (a = b))),h):=by simp [cY,aBin]; rfl
theorem aLI (hb:b ≠ 0):cY E .quo t h (.d (.int K a)) (.d (.int K b)) = some (.d (.int K (K.wrap (a.tdiv b))),h):=by simp [cY,aBin,hb]
theorem aMG (hb:b ≠ 0):cY E .rem t h (.d (.int K a)) (.d (.int K b)) = some (.d (.int K (a.tmod b)),h):=by simp [cY,aBin,hb]
theorem aLy {K2:IntKind} (hb:0 ≤ b):cY E .shl t h (.d (.int K a)) (.d (.int K2 b)) = some (.d (.int K (K.wrap (a * 2 ^ (min b.toNat K.bits)))),h):=by
 have:¬ b < 0:=by omega
 simp [cY,aBin,Op.shift,this]; rfl
theorem aLA {K2:IntKind} (hb:0 ≤ b):cY E .shr t h (.d (.int K a)) (.d (.int K2 b)) = some (.d (.int K (a.fdiv (2 ^ (min b.toNat K.bits)))),h):=by
 have:¬ b < 0:=by omega
 simp [cY,aBin,Op.shift,this]; rfl
theorem aQe {b:Bool}:aUn .not (.d (.bool b)) = some (.d (.bool (!b))):=rfl
end
end
theorem WD:type_of% (AI @aIV (AI @aMj (AI @aGf (AI @aMg (AI @aIe (AI @aFR (AI @aHD (AI @aJ0 (AI @aLB (AI @aNK (AI @aMu (AI @aLg (AI @aHK (AI @aF4 (AI @aFM (AI @aVu (AI @aUR (AI @aQa (AI @aVt (AI @aQV (AI @aQk (AI @aQW (AI @aTE (AI @aQw (AI @aNA (AI @aOm (AI @aAh (AI @RG (AI @WN (AI @aQm (AI @aVr (AI @aO2 (AI @aC9 (AI @aNE (AI @aNO (AI @aMo (AI @aMx (AI @aQy (AI @aML (AI @X3 (AI @aDv (AI @aBX (AI @aGl (AI @aFj (AI @aFQ (AI @aF2 (AI @aB2 (AI @aMe (AI @aBr (AI @aK1 (AI @aFt (AI @aFg (AI @aMF (AI @aQz (AI @aDf (AI @aJr (AI @aMK (AI @aFS (AI @aID @aBR))))))))))))))))))))))))))))))))))))))))))))))))))))))))))) :=
 ⟨@aIV,@aMj,@aGf,@aMg,@aIe,@aFR,@aHD,@aJ0,@aLB,@aNK,@aMu,@aLg,@aHK,@aF4,@aFM,@aVu,@aUR,@aQa,@aVt,@aQV,@aQk,@aQW,@aTE,@aQw,@aNA,@aOm,@aAh,@RG,@WN,@aQm,@aVr,@aO2,@aC9,@aNE,@aNO,@aMo,@aMx,@aQy,@aML,@X3,@aDv,@aBX,@aGl,@aFj,@aFQ,@aF2,@aB2,@aMe,@aBr,@aK1,@aFt,@aFg,@aMF,@aQz,@aDf,@aJr,@aMK,@aFS,@aID,@aBR⟩
theorem WDD:type_of% (AI @aK2 (AI @aJu (AI @aFv (AI @aIz (AI @aN8 (AI @WH (AI @aLQ (AI @XY (AI @aH1 (AI @YT (AI @aGi (AI @aPc (AI @aLv (AI @aKW (AI @aBL (AI @aNg (AI @aP9 (AI @aBu (AI @YS (AI @aHM (AI @aH0 (AI @aDn (AI @aIi (AI @aEb (AI @aMB (AI @aMM (AI @aIs (AI @aIh (AI @aFr (AI @aEc @YE)))))))))))))))))))))))))))))) :=
 ⟨@aK2,@aJu,@aFv,@aIz,@aN8,@WH,@aLQ,@XY,@aH1,@YT,@aGi,@aPc,@aLv,@aKW,@aBL,@aNg,@aP9,@aBu,@YS,@aHM,@aH0,@aDn,@aIi,@aEb,@aMB,@aMM,@aIs,@aIh,@aFr,@aEc,@YE⟩
theorem WK0:type_of% (AI @aUq (AI @aQe (AI @aK0 (AI @aMk (AI @aMn (AI @aL5 (AI @aNs (AI @aLu (AI @aDp (AI @aLI (AI @aMG (AI @aLy (AI @aLA (AI @aMz (AI @aMh (AI @aMd (AI @aL2 (AI @aLm (AI @aME (AI @ne_eq.{0} (AI @not_true_eq_false (AI @if_false.{0} (AI @if_true.{0} (AI @List.getD_nil.{0} (AI @List.getD_cons_zero.{0} (AI @List.getD_cons_succ.{0} (AI @List.set_cons_zero.{0} (AI @List.set_cons_succ.{0} (AI @aZl @aQQ))))))))))))))))))))))))))))) :=
 ⟨@aUq,@aQe,@aK0,@aMk,@aMn,@aL5,@aNs,@aLu,@aDp,@aLI,@aMG,@aLy,@aLA,@aMz,@aMh,@aMd,@aL2,@aLm,@aME,@ne_eq.{0},@not_true_eq_false,@if_false.{0},@if_true.{0},@List.getD_nil.{0},@List.getD_cons_zero.{0},@List.getD_cons_succ.{0},@List.set_cons_zero.{0},@List.set_cons_succ.{0},@aZl,@aQQ⟩
theorem WK1:type_of% (AI @Bool.not_true (AI @Bool.not_false (AI @Bool.true_eq_false (AI @Bool.false_eq_true (AI @decide_eq_true_eq (AI @decide_eq_false_iff_not (AI @Option.map_some.{0,0} (AI @Option.bind_some.{0,0} (AI @List.append_nil.{0} (AI @List.nil_append.{0} (AI @List.map_nil.{0,0} (AI @decide_true (AI @decide_false (AI @Bool.not_eq_false' (AI @Bool.not_eq_true' (AI @aOi (AI @Nat.mul_one (AI @Nat.one_mul (AI @Nat.zero_add (AI @Nat.add_zero (AI @List.getElem?_cons_zero.{0} (AI @List.getElem?_cons_succ.{0} (AI @List.length_cons.{0} (AI @List.length_nil.{0} (AI @List.drop_zero.{0} (AI @List.all_cons.{0} (AI @List.all_nil.{0} (AI @Bool.and_self (AI @Bool.and_true @Bool.true_and))))))))))))))))))))))))))))) :=
 ⟨@Bool.not_true,@Bool.not_false,@Bool.true_eq_false,@Bool.false_eq_true,@decide_eq_true_eq,@decide_eq_false_iff_not,@Option.map_some.{0,0},@Option.bind_some.{0,0},@List.append_nil.{0},@List.nil_append.{0},@List.map_nil.{0,0},@decide_true,@decide_false,@Bool.not_eq_false',@Bool.not_eq_true',@aOi,@Nat.mul_one,@Nat.one_mul,@Nat.zero_add,@Nat.add_zero,@List.getElem?_cons_zero.{0},@List.getElem?_cons_succ.{0},@List.length_cons.{0},@List.length_nil.{0},@List.drop_zero.{0},@List.all_cons.{0},@List.all_nil.{0},@Bool.and_self,@Bool.and_true,@Bool.true_and⟩
theorem WK2:type_of% (AI @Bool.false_and (AI @Bool.and_false (AI @List.map_cons.{0,0} (AI @List.zip_cons_cons.{0,0} (AI @List.zip_nil_left.{0,0} (AI @List.flatten_cons.{0} (AI @List.flatten_nil.{0} (AI @List.take_zero.{0} (AI @List.take_nil.{0} (AI @List.drop_nil.{0} (AI @List.cons_append.{0} (AI @Bool.or_self (AI @Bool.or_false (AI @Bool.false_or (AI @Nat.not_lt_zero (AI @and_self (AI @and_true (AI @true_and (AI @Bool.or_true (AI @Bool.true_or (AI @Option.map_none.{0,0} (AI @List.drop_succ_cons.{0} (AI @List.take_succ_cons.{0} (AI @Nat.lt_irrefl (AI @List.head?_cons.{0} (AI @Option.any_some.{0} (AI @List.contains_cons.{0} (AI @List.contains_nil.{0} (AI @AC @aHZ))))))))))))))))))))))))))))) :=
 ⟨@Bool.false_and,@Bool.and_false,@List.map_cons.{0,0},@List.zip_cons_cons.{0,0},@List.zip_nil_left.{0,0},@List.flatten_cons.{0},@List.flatten_nil.{0},@List.take_zero.{0},@List.take_nil.{0},@List.drop_nil.{0},@List.cons_append.{0},@Bool.or_self,@Bool.or_false,@Bool.false_or,@Nat.not_lt_zero,@and_self,@and_true,@true_and,@Bool.or_true,@Bool.true_or,@Option.map_none.{0,0},@List.drop_succ_cons.{0},@List.take_succ_cons.{0},@Nat.lt_irrefl,@List.head?_cons.{0},@Option.any_some.{0},@List.contains_cons.{0},@List.contains_nil.{0},@AC,@aHZ⟩
theorem WK3:type_of% (AI @rng0 (AI @rng1 (AI @rng2 (AI @rng3 (AI @Option.getD_none.{0} (AI @Option.isNone_none.{0} (AI @Option.isNone_some.{0} (AI @Option.isSome_none.{0} (AI @Option.isSome_some.{0} (AI @aLS (AI @aJA (AI @beq_self_eq_true.{0} (AI @Nat.succ_ne_self (AI @Nat.zero_ne_one (AI @Nat.one_ne_zero (AI @List.length_append.{0} (AI @false_or (AI @or_false (AI @or_true (AI @true_or (AI @List.take_length.{0} (AI @Option.toList_none.{0} @Option.toList_some.{0})))))))))))))))))))))) :=
 ⟨@rng0,@rng1,@rng2,@rng3,@Option.getD_none.{0},@Option.isNone_none.{0},@Option.isNone_some.{0},@Option.isSome_none.{0},@Option.isSome_some.{0},@aLS,@aJA,@beq_self_eq_true.{0},@Nat.succ_ne_self,@Nat.zero_ne_one,@Nat.one_ne_zero,@List.length_append.{0},@false_or,@or_false,@or_true,@true_or,@List.take_length.{0},@Option.toList_none.{0},@Option.toList_some.{0}⟩
theorem WK:type_of% (AI @WK0 (AI @WK1 (AI @WK2 @WK3))) :=
 ⟨@WK0,@WK1,@WK2,@WK3⟩
section
variable {E:Env} {vs:List A} {t u:TypeId} {x y:Operand}
theorem aGd:gJ E (.load t x) vs = true:=rfl
theorem aDV {a b c:Option Operand}:gJ E (.slice t x a b c) vs = true:=rfl
theorem aLb:gJ E (.indexAddr t x y) vs = true:=rfl
theorem aFh:gJ E (.convert t u x) vs = (bP E.P u).isNone:=rfl
theorem aBG {a:Array Operand} {b:Array TypeId}:gJ E (.call ⟨.builtin .append,a,b⟩) vs = false:=rfl
theorem aJ2 {a:Array Operand} {b:Array TypeId}:gJ E (.call ⟨.builtin .len,a,b⟩) vs = true:=rfl
theorem aJE {a:Array Operand} {b:Array TypeId} {f:FuncId} {c:List A}:gJ E (.call ⟨.value x,a,b⟩) (.clo f c :: vs) = ((E.hint f).mode == 1):=rfl
theorem aMt {a:Array Operand} {b:Array TypeId} {f:FuncId} {c:List D}:gJ E (.call ⟨.value x,a,b⟩) (.d (.fn f c) :: vs) = ((E.hint f).mode == 1):=rfl
theorem aHS:gJ E (.box t x) vs = false:=rfl
theorem aEi:gJ E (.alloc t) vs = false:=rfl
theorem aBx:gJ E (.assign x) vs = false:=rfl
theorem aCK:gJ E (.store t x y) vs = false:=rfl
theorem aLi {n:Nat} {ps:Array (Nat × Operand)}:gJ E (.buildSlice t n ps) vs = false:=rfl
theorem aLE:gJ E (.makeSlice t x y) vs = false:=rfl
theorem aK9:gJ E (.makeMap t none) vs = false:=rfl
theorem aKU {z:Operand}:gJ E (.mapUpdate t x y z) vs = false:=rfl
theorem aQD {b:Bool}:cX (.lookup t x y b) = false:=rfl
theorem aQ3:cX (.makeMap t none) = false:=rfl
theorem aQb {z:Operand}:cX (.mapUpdate t x y z) = false:=rfl
theorem aHG:opds (.alloc t) = []:=rfl
theorem aK4:cX (.load t x) = false:=rfl
theorem aIG:cX (.store t x y) = false:=rfl
theorem aFV:cX (.assign x) = false:=rfl
theorem aJT:cX (.alloc t) = false:=rfl
theorem aOo:cX (.box t x) = false:=rfl
theorem aQF {n:Nat} {ps:Array (Nat × Operand)}:cX (.buildSlice t n ps) = false:=rfl
theorem aLK:cX (.convert t u x) = false:=rfl
theorem aQU:cX (.makeSlice t x y) = false:=rfl
theorem aIn {a b c:Option Operand}:cX (.slice t x a b c) = false:=rfl
theorem aP5:cX (.indexAddr t x y) = false:=rfl
theorem aLC {c:Call}:cX (.call c) = false:=rfl
end
theorem UNx1:type_of% (fun v0 => @kO.eq_3 (Go.Exit.exit v0) (by nofun) (by nofun)):=by intros; rfl
theorem UNx2:type_of% (fun v0 => @kO.eq_3 (Go.Exit.goto v0) (by nofun) (by nofun)):=by intros; rfl
theorem UNx3:type_of% (fun v0 => @kO.eq_3 (Go.Exit.panic v0) (by nofun) (by nofun)):=by intros; rfl
theorem UNx4:type_of% (@kO.eq_3 Go.Exit.outgrown (by nofun) (by nofun)):=(@kO.eq_3 Go.Exit.outgrown (by nofun) (by nofun))
theorem UNx5:type_of% (fun v0 v1 v2 v3 => @outA.eq_2 v0 v1 v2 (A.d v3) (by nofun)):=by intros; rfl
theorem UNx6:type_of% (fun v0 v1 v2 v3 v4 v5 v6 => @outA.eq_2 v0 v1 v2 (A.sl v3 v4 v5 v6) (by nofun)):=by intros; rfl
theorem UNx7:type_of% (fun v0 v1 v2 v3 v4 v5 => @outA.eq_2 v0 v1 v2 (A.ptr v3 v4 v5) (by nofun)):=by intros; rfl
theorem UNx8:type_of% (fun v0 v1 v2 v3 => @outA.eq_2 v0 v1 v2 (A.mp v3) (by nofun)):=by intros; rfl
theorem UNx9:type_of% (fun v0 v1 v2 v3 v4 => @outA.eq_2 v0 v1 v2 (A.clo v3 v4) (by nofun)):=by intros; rfl
theorem aX9:type_of% (fun v0 v1 v2 v3 => @outA.eq_2 v0 v1 v2 (A.tup v3) (by nofun)):=by intros; rfl
theorem aYq:type_of% (fun v0 v1 v2 => @outA.eq_2 v0 v1 v2 A.junk (by nofun)):=by intros; rfl
theorem aYL:type_of% (fun v0 v1 v2 => @outS.eq_2 v0 v1 v2 D.undef (by nofun)):=by intros; rfl
theorem aYC:type_of% (fun v0 v1 v2 v3 v4 => @outS.eq_2 v0 v1 v2 (D.int v3 v4) (by nofun)):=by intros; rfl
theorem aYz:type_of% (fun v0 v1 v2 v3 => @outS.eq_2 v0 v1 v2 (D.bool v3) (by nofun)):=by intros; rfl
theorem aYx:type_of% (fun v0 v1 v2 v3 => @outS.eq_2 v0 v1 v2 (D.str v3) (by nofun)):=by intros; rfl
theorem aZj:type_of% (fun v0 v1 v2 v3 v4 => @outS.eq_2 v0 v1 v2 (D.ivs v3 v4) (by nofun)):=by intros; rfl
theorem aYt:type_of% (fun v0 v1 v2 v3 => @outS.eq_2 v0 v1 v2 (D.iptr v3) (by nofun)):=by intros; rfl
theorem aYm:type_of% (fun v0 v1 v2 => @outS.eq_2 v0 v1 v2 D.nilp (by nofun)):=by intros; rfl
theorem aYR:type_of% (fun v0 v1 v2 v3 v4 => @outS.eq_2 v0 v1 v2 (D.fn v3 v4) (by nofun)):=by intros; rfl
theorem aZe:type_of% (fun v0 v1 v2 => @outS.eq_2 v0 v1 v2 D.nilfn (by nofun)):=by intros; rfl
theorem aYu:type_of% (fun v0 v1 v2 => @outS.eq_2 v0 v1 v2 D.nili (by nofun)):=by intros; rfl
theorem aYU:type_of% (fun v0 v1 v2 => @outS.eq_2 v0 v1 v2 D.nilm (by nofun)):=by intros; rfl
theorem aXQ:type_of% (fun v0 v1 v2 v3 v4 => @outS.eq_2 v0 v1 v2 (D.ifc v3 v4) (by nofun)):=by intros; rfl
theorem aY1:type_of% (fun v0 v1 v2 v3 => @outS.eq_7 v0 v1 v2 (A.agg v3) (by nofun) (by nofun) (by nofun) (by nofun) (by nofun) (by nofun)):=by intros; rfl
theorem aYO:type_of% (fun v0 v1 v2 v3 => @outS.eq_7 v0 v1 v2 (A.tup v3) (by nofun) (by nofun) (by nofun) (by nofun) (by nofun) (by nofun)):=by intros; rfl
theorem aZf:type_of% (fun v0 v1 v2 => @outS.eq_7 v0 v1 v2 A.junk (by nofun) (by nofun) (by nofun) (by nofun) (by nofun) (by nofun)):=by intros; rfl
theorem aY6:type_of% (fun v0 v1 => @tU.eq_4 (List.cons v0 v1) (by nofun)):=(fun v0 v1 => @tU.eq_4 (List.cons v0 v1) (by nofun))
theorem aZd:type_of% (fun v0 v1 => @eC.eq_3 (A.d (D.int v0 v1)) (by nofun) (by nofun)):=by intros; rfl
theorem aYJ:type_of% (fun v0 => @eC.eq_3 (A.d (D.bool v0)) (by nofun) (by nofun)):=by intros; rfl
theorem aYp:type_of% (fun v0 => @eC.eq_3 (A.d (D.str v0)) (by nofun) (by nofun)):=by intros; rfl
theorem aZa:type_of% (fun v0 v1 => @eC.eq_3 (A.d (D.ivs v0 v1)) (by nofun) (by nofun)):=by intros; rfl
theorem aYa:type_of% (@eC.eq_3 (A.d D.nils) (by nofun) (by nofun)):=(@eC.eq_3 (A.d D.nils) (by nofun) (by nofun))
theorem aYW:type_of% (fun v0 => @eC.eq_3 (A.d (D.iptr v0)) (by nofun) (by nofun)):=by intros; rfl
theorem aX5:type_of% (@eC.eq_3 (A.d D.nilp) (by nofun) (by nofun)):=(@eC.eq_3 (A.d D.nilp) (by nofun) (by nofun))
theorem aZu:type_of% (fun v0 v1 => @eC.eq_3 (A.d (D.fn v0 v1)) (by nofun) (by nofun)):=by intros; rfl
theorem aYj:type_of% (@eC.eq_3 (A.d D.nilfn) (by nofun) (by nofun)):=(@eC.eq_3 (A.d D.nilfn) (by nofun) (by nofun))
theorem aYY:type_of% (@eC.eq_3 (A.d D.nili) (by nofun) (by nofun)):=(@eC.eq_3 (A.d D.nili) (by nofun) (by nofun))
theorem aY2:type_of% (@eC.eq_3 (A.d D.nilm) (by nofun) (by nofun)):=(@eC.eq_3 (A.d D.nilm) (by nofun) (by nofun))
theorem aYB:type_of% (fun v0 v1 => @eC.eq_3 (A.d (D.ifc v0 v1)) (by nofun) (by nofun)):=by intros; rfl
theorem aYn:type_of% (fun v0 v1 v2 v3 => @eC.eq_3 (A.sl v0 v1 v2 v3) (by nofun) (by nofun)):=by intros; rfl
theorem aY8:type_of% (fun v0 v1 v2 => @eC.eq_3 (A.ptr v0 v1 v2) (by nofun) (by nofun)):=by intros; rfl
theorem aYs:type_of% (fun v0 => @eC.eq_3 (A.mp v0) (by nofun) (by nofun)):=by intros; rfl
theorem aXZ:type_of% (fun v0 v1 => @eC.eq_3 (A.clo v0 v1) (by nofun) (by nofun)):=by intros; rfl
theorem aYf:type_of% (fun v0 => @eC.eq_3 (A.agg v0) (by nofun) (by nofun)):=by intros; rfl
theorem aYc:type_of% (fun v0 => @eC.eq_3 (A.tup v0) (by nofun) (by nofun)):=by intros; rfl
theorem aZy:type_of% (fun v0 => @tidy.eq_3 List.nil v0 (by nofun) (by nofun)):=by intros; rfl
theorem aYZ:type_of% (fun v0 => @tidy.eq_3 (List.cons Bool.false v0) List.nil (by nofun) (by nofun)):=by intros; rfl
theorem aYP:type_of% (fun v0 => @tidy.eq_3 (List.cons Bool.true v0) List.nil (by nofun) (by nofun)):=by intros; rfl
theorem aYb:type_of% (fun v0 v1 v2 v3 v4 => @dD.eq_2 v0 v1 v2 v3 (A.d v4) (by nofun)):=by intros; rfl
theorem aZn:type_of% (fun v0 v1 v2 v3 v4 v5 v6 v7 => @dD.eq_2 v0 v1 v2 v3 (A.sl v4 v5 v6 v7) (by nofun)):=by intros; rfl
theorem aX1:type_of% (fun v0 v1 v2 v3 v4 v5 v6 => @dD.eq_2 v0 v1 v2 v3 (A.ptr v4 v5 v6) (by nofun)):=by intros; rfl
theorem aZb:type_of% (fun v0 v1 v2 v3 v4 v5 => @dD.eq_2 v0 v1 v2 v3 (A.clo v4 v5) (by nofun)):=by intros; rfl
theorem aYG:type_of% (fun v0 v1 v2 v3 v4 => @dD.eq_2 v0 v1 v2 v3 (A.agg v4) (by nofun)):=by intros; rfl
theorem aYi:type_of% (fun v0 v1 v2 v3 v4 => @dD.eq_2 v0 v1 v2 v3 (A.tup v4) (by nofun)):=by intros; rfl
theorem aYr:type_of% (fun v0 v1 v2 v3 => @dD.eq_2 v0 v1 v2 v3 A.junk (by nofun)):=by intros; rfl
theorem aZw:type_of% (fun v0 v1 v2 v3 v4 => @oC.eq_2 v0 v1 v2 (A.d v4) v3 (by nofun)):=by intros; rfl
theorem aYA:type_of% (fun v0 v1 v2 v3 v4 v5 v6 => @oC.eq_2 v0 v1 v2 (A.ptr v4 v5 v6) v3 (by nofun)):=by intros; rfl
theorem aZc:type_of% (fun v0 v1 v2 v3 v4 => @oC.eq_2 v0 v1 v2 (A.mp v4) v3 (by nofun)):=by intros; rfl
theorem aYN:type_of% (fun v0 v1 v2 v3 v4 v5 => @oC.eq_2 v0 v1 v2 (A.clo v4 v5) v3 (by nofun)):=by intros; rfl
theorem aYQ:type_of% (fun v0 v1 v2 v3 v4 => @oC.eq_2 v0 v1 v2 (A.agg v4) v3 (by nofun)):=by intros; rfl
theorem aZk:type_of% (fun v0 v1 v2 v3 v4 => @oC.eq_2 v0 v1 v2 (A.tup v4) v3 (by nofun)):=by intros; rfl
theorem aYF:type_of% (fun v0 v1 v2 v3 => @oC.eq_2 v0 v1 v2 A.junk v3 (by nofun)):=by intros; rfl
theorem aYh:type_of% (fun v0 v1 => @LS.eq_2 v0 (A.d v1) (by nofun)):=by intros; rfl
theorem aX7:type_of% (fun v0 v1 v2 v3 => @LS.eq_2 v0 (A.ptr v1 v2 v3) (by nofun)):=by intros; rfl
theorem aYE:type_of% (fun v0 v1 => @LS.eq_2 v0 (A.mp v1) (by nofun)):=by intros; rfl
theorem aXU:type_of% (fun v0 v1 v2 => @LS.eq_2 v0 (A.clo v1 v2) (by nofun)):=by intros; rfl
theorem aZt:type_of% (fun v0 v1 => @LS.eq_2 v0 (A.agg v1) (by nofun)):=by intros; rfl
theorem aX2:type_of% (fun v0 v1 => @LS.eq_2 v0 (A.tup v1) (by nofun)):=by intros; rfl
theorem aZr:type_of% (fun v0 => @LS.eq_2 v0 A.junk (by nofun)):=by intros; rfl
theorem aXY:type_of% (fun v0 v1 v2 => @oK.eq_2 v0 v1 (A.d v2) (by nofun)):=by intros; rfl
theorem aXV:type_of% (fun v0 v1 v2 v3 v4 => @oK.eq_2 v0 v1 (A.ptr v2 v3 v4) (by nofun)):=by intros; rfl
theorem aX0:type_of% (fun v0 v1 v2 => @oK.eq_2 v0 v1 (A.mp v2) (by nofun)):=by intros; rfl
theorem aXS:type_of% (fun v0 v1 v2 v3 => @oK.eq_2 v0 v1 (A.clo v2 v3) (by nofun)):=by intros; rfl
theorem aYo:type_of% (fun v0 v1 v2 => @oK.eq_2 v0 v1 (A.agg v2) (by nofun)):=by intros; rfl
theorem aXT:type_of% (fun v0 v1 v2 => @oK.eq_2 v0 v1 (A.tup v2) (by nofun)):=by intros; rfl
theorem aYV:type_of% (fun v0 v1 => @oK.eq_2 v0 v1 A.junk (by nofun)):=by intros; rfl
theorem aZp:type_of% (@sQ.eq_2 Option.none (by nofun)):=(@sQ.eq_2 Option.none (by nofun))
theorem aYK:type_of% (fun v0 v1 => @sQ.eq_2 (Option.some (Prod.mk (A.d v1) v0)) (by nofun)):=by intros; rfl
theorem aYS:type_of% (fun v0 v1 v2 v3 => @sQ.eq_2 (Option.some (Prod.mk (A.ptr v1 v2 v3) v0)) (by nofun)):=by intros; rfl
theorem aZq:type_of% (fun v0 v1 => @sQ.eq_2 (Option.some (Prod.mk (A.mp v1) v0)) (by nofun)):=by intros; rfl
theorem aYD:type_of% (fun v0 v1 v2 => @sQ.eq_2 (Option.some (Prod.mk (A.clo v1 v2) v0)) (by nofun)):=by intros; rfl
theorem aZv:type_of% (fun v0 v1 => @sQ.eq_2 (Option.some (Prod.mk (A.agg v1) v0)) (by nofun)):=by intros; rfl
theorem aY9:type_of% (fun v0 v1 => @sQ.eq_2 (Option.some (Prod.mk (A.tup v1) v0)) (by nofun)):=by intros; rfl
theorem aY5:type_of% (fun v0 => @sQ.eq_2 (Option.some (Prod.mk A.junk v0)) (by nofun)):=by intros; rfl
theorem aY3:type_of% (fun v0 v1 v2 => @frz.eq_5 v0 (A.d v2) v1 (by nofun) (by nofun) (by nofun)):=by intros; rfl
theorem aZs:type_of% (fun v0 v1 v2 => @frz.eq_5 v0 (A.mp v2) v1 (by nofun) (by nofun) (by nofun)):=by intros; rfl
theorem aX4:type_of% (fun v0 v1 v2 => @frz.eq_5 v0 (A.agg v2) v1 (by nofun) (by nofun) (by nofun)):=by intros; rfl
theorem aY4:type_of% (fun v0 v1 v2 => @frz.eq_5 v0 (A.tup v2) v1 (by nofun) (by nofun) (by nofun)):=by intros; rfl
theorem aZm:type_of% (fun v0 v1 => @frz.eq_5 v0 A.junk v1 (by nofun) (by nofun) (by nofun)):=by intros; rfl
theorem aYd:type_of% (fun v0 v1 v2 v3 => @frz0.eq_3 v0 (A.ptr v1 v2 v3) (by nofun) (by nofun)):=by intros; rfl
theorem aX8:type_of% (fun v0 v1 => @frz0.eq_3 v0 (A.mp v1) (by nofun) (by nofun)):=by intros; rfl
theorem aXW:type_of% (fun v0 v1 v2 => @frz0.eq_3 v0 (A.clo v1 v2) (by nofun) (by nofun)):=by intros; rfl
theorem aYI:type_of% (fun v0 v1 => @frz0.eq_3 v0 (A.agg v1) (by nofun) (by nofun)):=by intros; rfl
theorem aYw:type_of% (fun v0 v1 => @frz0.eq_3 v0 (A.tup v1) (by nofun) (by nofun)):=by intros; rfl
theorem aZh:type_of% (fun v0 => @frz0.eq_3 v0 A.junk (by nofun) (by nofun)):=by intros; rfl
theorem aX3:type_of% (fun v0 => @a6.eq_2 (A.d v0) (by nofun)):=by intros; rfl
theorem aYX:type_of% (fun v0 v1 v2 v3 => @a6.eq_2 (A.sl v0 v1 v2 v3) (by nofun)):=by intros; rfl
theorem aX6:type_of% (fun v0 v1 v2 => @a6.eq_2 (A.ptr v0 v1 v2) (by nofun)):=by intros; rfl
theorem aXX:type_of% (fun v0 => @a6.eq_2 (A.mp v0) (by nofun)):=by intros; rfl
theorem aTQ:type_of% (fun v0 v1 => @a6.eq_2 (A.clo v0 v1) (by nofun)):=by intros; rfl
theorem aVA:type_of% (fun v0 => @a6.eq_2 (A.tup v0) (by nofun)):=by intros; rfl
theorem aVs:type_of% (@a6.eq_2 A.junk (by nofun)):=(@a6.eq_2 A.junk (by nofun))
theorem aVd:type_of% (fun v0 v1 => @c9.eq_5 (A.d (D.int v0 v1)) (by nofun) (by nofun) (by nofun) (by nofun)):=by intros; rfl
theorem aVZ:type_of% (fun v0 => @c9.eq_5 (A.d (D.bool v0)) (by nofun) (by nofun) (by nofun) (by nofun)):=by intros; rfl
theorem aT3:type_of% (fun v0 => @c9.eq_5 (A.d (D.str v0)) (by nofun) (by nofun) (by nofun) (by nofun)):=by intros; rfl
theorem aVa:type_of% (fun v0 v1 => @c9.eq_5 (A.d (D.ivs v0 v1)) (by nofun) (by nofun) (by nofun) (by nofun)):=by intros; rfl
theorem aTs:type_of% (@c9.eq_5 (A.d D.nils) (by nofun) (by nofun) (by nofun) (by nofun)):=(@c9.eq_5 (A.d D.nils) (by nofun) (by nofun) (by nofun) (by nofun))
theorem aSA:type_of% (fun v0 => @c9.eq_5 (A.d (D.iptr v0)) (by nofun) (by nofun) (by nofun) (by nofun)):=by intros; rfl
theorem aTD:type_of% (@c9.eq_5 (A.d D.nilp) (by nofun) (by nofun) (by nofun) (by nofun)):=(@c9.eq_5 (A.d D.nilp) (by nofun) (by nofun) (by nofun) (by nofun))
theorem aUN:type_of% (fun v0 v1 => @c9.eq_5 (A.d (D.fn v0 v1)) (by nofun) (by nofun) (by nofun) (by nofun)):=by intros; rfl
theorem aSy:type_of% (@c9.eq_5 (A.d D.nilfn) (by nofun) (by nofun) (by nofun) (by nofun)):=(@c9.eq_5 (A.d D.nilfn) (by nofun) (by nofun) (by nofun) (by nofun))
theorem aUf:type_of% (@c9.eq_5 (A.d D.nili) (by nofun) (by nofun) (by nofun) (by nofun)):=(@c9.eq_5 (A.d D.nili) (by nofun) (by nofun) (by nofun) (by nofun))
theorem aUC:type_of% (@c9.eq_5 (A.d D.nilm) (by nofun) (by nofun) (by nofun) (by nofun)):=(@c9.eq_5 (A.d D.nilm) (by nofun) (by nofun) (by nofun) (by nofun))
theorem aUo:type_of% (fun v0 v1 => @c9.eq_5 (A.d (D.ifc v0 v1)) (by nofun) (by nofun) (by nofun) (by nofun)):=by intros; rfl
theorem aVX:type_of% (fun v0 v1 v2 v3 => @c9.eq_5 (A.sl v0 v1 v2 v3) (by nofun) (by nofun) (by nofun) (by nofun)):=by intros; rfl
theorem aSv:type_of% (fun v0 v1 v2 => @c9.eq_5 (A.ptr v0 v1 v2) (by nofun) (by nofun) (by nofun) (by nofun)):=by intros; rfl
theorem aTR:type_of% (fun v0 => @c9.eq_5 (A.mp v0) (by nofun) (by nofun) (by nofun) (by nofun)):=by intros; rfl
theorem aTu:type_of% (fun v0 v1 => @c9.eq_5 (A.clo v0 v1) (by nofun) (by nofun) (by nofun) (by nofun)):=by intros; rfl
theorem aUF:type_of% (fun v0 => @pH.eq_2 (A.d v0) (by nofun)):=by intros; rfl
theorem aTA:type_of% (fun v0 v1 v2 v3 => @pH.eq_2 (A.sl v0 v1 v2 v3) (by nofun)):=by intros; rfl
theorem aUa:type_of% (fun v0 v1 v2 => @pH.eq_2 (A.ptr v0 v1 v2) (by nofun)):=by intros; rfl
theorem aS2:type_of% (fun v0 => @pH.eq_2 (A.mp v0) (by nofun)):=by intros; rfl
theorem aVQ:type_of% (fun v0 v1 => @pH.eq_2 (A.clo v0 v1) (by nofun)):=by intros; rfl
theorem aU7:type_of% (fun v0 => @pH.eq_2 (A.agg v0) (by nofun)):=by intros; rfl
theorem aVv:type_of% (fun v0 => @pH.eq_2 (A.tup v0) (by nofun)):=by intros; rfl
theorem aUy:type_of% (fun v0 v1 v2 v3 => @nZ.eq_4 (O.arr v1 v2 v3) v0 (by nofun) (by nofun)):=by intros; rfl
theorem aTI:type_of% (fun v0 v1 v2 v3 => @nZ.eq_4 (O.ice v1 v2 v3) v0 (by nofun) (by nofun)):=by intros; rfl
theorem aTe:type_of% (fun v0 v1 => @nZ.eq_4 (O.log v1) v0 (by nofun) (by nofun)):=by intros; rfl
theorem aV2:type_of% (fun v0 v1 => @nZ.eq_4 (O.mp v1) v0 (by nofun) (by nofun)):=by intros; rfl
theorem aVP:type_of% (fun v0 => @nZ.eq_4 O.void v0 (by nofun) (by nofun)):=by intros; rfl
theorem aUr:type_of% (@tupA.eq_2 List.nil (by nofun)):=(@tupA.eq_2 List.nil (by nofun))
theorem aVW:type_of% (fun v0 v1 v2 => @tupA.eq_2 (List.cons v0 (List.cons v1 v2)) (by nofun)):=by intros; rfl
theorem aTZ:type_of% (fun v0 => @opds.eq_26 (Go.Op.alloc v0) (by nofun) (by nofun) (by nofun) (by nofun) (by nofun) (by nofun) (by nofun) (by nofun) (by nofun) (by nofun) (by nofun) (by nofun) (by nofun) (by nofun) (by nofun) (by nofun) (by nofun) (by nofun) (by nofun) (by nofun) (by nofun) (by nofun) (by nofun) (by nofun) (by nofun)):=by intros; rfl
theorem aVS:type_of% (fun v0 => @opds.eq_26 (Go.Op.ready v0) (by nofun) (by nofun) (by nofun) (by nofun) (by nofun) (by nofun) (by nofun) (by nofun) (by nofun) (by nofun) (by nofun) (by nofun) (by nofun) (by nofun) (by nofun) (by nofun) (by nofun) (by nofun) (by nofun) (by nofun) (by nofun) (by nofun) (by nofun) (by nofun) (by nofun)):=by intros; rfl
theorem aWu:type_of% (fun v0 => @opds.eq_26 (Go.Op.waits v0) (by nofun) (by nofun) (by nofun) (by nofun) (by nofun) (by nofun) (by nofun) (by nofun) (by nofun) (by nofun) (by nofun) (by nofun) (by nofun) (by nofun) (by nofun) (by nofun) (by nofun) (by nofun) (by nofun) (by nofun) (by nofun) (by nofun) (by nofun) (by nofun) (by nofun)):=by intros; rfl
theorem aTT:type_of% (fun v0 v1 => @opds.eq_26 (Go.Op.sliceToArrayPointer v0 v1) (by nofun) (by nofun) (by nofun) (by nofun) (by nofun) (by nofun) (by nofun) (by nofun) (by nofun) (by nofun) (by nofun) (by nofun) (by nofun) (by nofun) (by nofun) (by nofun) (by nofun) (by nofun) (by nofun) (by nofun) (by nofun) (by nofun) (by nofun) (by nofun) (by nofun)):=by intros; rfl
theorem aVe:type_of% (fun v0 v1 => @opds.eq_26 (Go.Op.makeInterface v0 v1) (by nofun) (by nofun) (by nofun) (by nofun) (by nofun) (by nofun) (by nofun) (by nofun) (by nofun) (by nofun) (by nofun) (by nofun) (by nofun) (by nofun) (by nofun) (by nofun) (by nofun) (by nofun) (by nofun) (by nofun) (by nofun) (by nofun) (by nofun) (by nofun) (by nofun)):=by intros; rfl
theorem aSZ:type_of% (fun v0 v1 => @opds.eq_26 (Go.Op.makeChan v0 v1) (by nofun) (by nofun) (by nofun) (by nofun) (by nofun) (by nofun) (by nofun) (by nofun) (by nofun) (by nofun) (by nofun) (by nofun) (by nofun) (by nofun) (by nofun) (by nofun) (by nofun) (by nofun) (by nofun) (by nofun) (by nofun) (by nofun) (by nofun) (by nofun) (by nofun)):=by intros; rfl
theorem aSE:type_of% (fun v0 v1 v2 => @opds.eq_26 (Go.Op.mapEntry v0 v1 v2) (by nofun) (by nofun) (by nofun) (by nofun) (by nofun) (by nofun) (by nofun) (by nofun) (by nofun) (by nofun) (by nofun) (by nofun) (by nofun) (by nofun) (by nofun) (by nofun) (by nofun) (by nofun) (by nofun) (by nofun) (by nofun) (by nofun) (by nofun) (by nofun) (by nofun)):=by intros; rfl
theorem aVL:type_of% (fun v0 v1 v2 v3 => @opds.eq_26 (Go.Op.entryStore v0 v1 v2 v3) (by nofun) (by nofun) (by nofun) (by nofun) (by nofun) (by nofun) (by nofun) (by nofun) (by nofun) (by nofun) (by nofun) (by nofun) (by nofun) (by nofun) (by nofun) (by nofun) (by nofun) (by nofun) (by nofun) (by nofun) (by nofun) (by nofun) (by nofun) (by nofun) (by nofun)):=by intros; rfl
theorem aVM:type_of% (fun v0 v1 => @opds.eq_26 (Go.Op.range v0 v1) (by nofun) (by nofun) (by nofun) (by nofun) (by nofun) (by nofun) (by nofun) (by nofun) (by nofun) (by nofun) (by nofun) (by nofun) (by nofun) (by nofun) (by nofun) (by nofun) (by nofun) (by nofun) (by nofun) (by nofun) (by nofun) (by nofun) (by nofun) (by nofun) (by nofun)):=by intros; rfl
theorem aWt:type_of% (fun v0 v1 => @opds.eq_26 (Go.Op.next v0 v1) (by nofun) (by nofun) (by nofun) (by nofun) (by nofun) (by nofun) (by nofun) (by nofun) (by nofun) (by nofun) (by nofun) (by nofun) (by nofun) (by nofun) (by nofun) (by nofun) (by nofun) (by nofun) (by nofun) (by nofun) (by nofun) (by nofun) (by nofun) (by nofun) (by nofun)):=by intros; rfl
theorem aUb:type_of% (fun v0 => @opds.eq_26 (Go.Op.entry v0) (by nofun) (by nofun) (by nofun) (by nofun) (by nofun) (by nofun) (by nofun) (by nofun) (by nofun) (by nofun) (by nofun) (by nofun) (by nofun) (by nofun) (by nofun) (by nofun) (by nofun) (by nofun) (by nofun) (by nofun) (by nofun) (by nofun) (by nofun) (by nofun) (by nofun)):=by intros; rfl
theorem aUU:type_of% (fun v0 v1 v2 v3 => @opds.eq_26 (Go.Op.typeAssert v0 v1 v2 v3) (by nofun) (by nofun) (by nofun) (by nofun) (by nofun) (by nofun) (by nofun) (by nofun) (by nofun) (by nofun) (by nofun) (by nofun) (by nofun) (by nofun) (by nofun) (by nofun) (by nofun) (by nofun) (by nofun) (by nofun) (by nofun) (by nofun) (by nofun) (by nofun) (by nofun)):=by intros; rfl
theorem aST:type_of% (fun v0 => @opds.eq_26 (Go.Op.go v0) (by nofun) (by nofun) (by nofun) (by nofun) (by nofun) (by nofun) (by nofun) (by nofun) (by nofun) (by nofun) (by nofun) (by nofun) (by nofun) (by nofun) (by nofun) (by nofun) (by nofun) (by nofun) (by nofun) (by nofun) (by nofun) (by nofun) (by nofun) (by nofun) (by nofun)):=by intros; rfl
theorem aUI:type_of% (fun v0 => @opds.eq_26 (Go.Op.defer v0) (by nofun) (by nofun) (by nofun) (by nofun) (by nofun) (by nofun) (by nofun) (by nofun) (by nofun) (by nofun) (by nofun) (by nofun) (by nofun) (by nofun) (by nofun) (by nofun) (by nofun) (by nofun) (by nofun) (by nofun) (by nofun) (by nofun) (by nofun) (by nofun) (by nofun)):=by intros; rfl
theorem aVU:type_of% (fun v0 => @opds.eq_26 (Go.Op.panic v0) (by nofun) (by nofun) (by nofun) (by nofun) (by nofun) (by nofun) (by nofun) (by nofun) (by nofun) (by nofun) (by nofun) (by nofun) (by nofun) (by nofun) (by nofun) (by nofun) (by nofun) (by nofun) (by nofun) (by nofun) (by nofun) (by nofun) (by nofun) (by nofun) (by nofun)):=by intros; rfl
theorem aWn:type_of% (fun v0 v1 => @opds.eq_26 (Go.Op.send v0 v1) (by nofun) (by nofun) (by nofun) (by nofun) (by nofun) (by nofun) (by nofun) (by nofun) (by nofun) (by nofun) (by nofun) (by nofun) (by nofun) (by nofun) (by nofun) (by nofun) (by nofun) (by nofun) (by nofun) (by nofun) (by nofun) (by nofun) (by nofun) (by nofun) (by nofun)):=by intros; rfl
theorem aVN:type_of% (fun v0 v1 v2 => @opds.eq_26 (Go.Op.recv v0 v1 v2) (by nofun) (by nofun) (by nofun) (by nofun) (by nofun) (by nofun) (by nofun) (by nofun) (by nofun) (by nofun) (by nofun) (by nofun) (by nofun) (by nofun) (by nofun) (by nofun) (by nofun) (by nofun) (by nofun) (by nofun) (by nofun) (by nofun) (by nofun) (by nofun) (by nofun)):=by intros; rfl
theorem aUw:type_of% (fun v0 v1 => @opds.eq_26 (Go.Op.select v0 v1) (by nofun) (by nofun) (by nofun) (by nofun) (by nofun) (by nofun) (by nofun) (by nofun) (by nofun) (by nofun) (by nofun) (by nofun) (by nofun) (by nofun) (by nofun) (by nofun) (by nofun) (by nofun) (by nofun) (by nofun) (by nofun) (by nofun) (by nofun) (by nofun) (by nofun)):=by intros; rfl
theorem aWf:type_of% (fun v0 => @LV.eq_2 List.nil v0 (by nofun)):=by intros; rfl
theorem aWm:type_of% (fun v0 v1 => @LV.eq_2 (List.cons v1 List.nil) v0 (by nofun)):=by intros; rfl
theorem aUL:type_of% (fun v0 v1 v2 => @LV.eq_2 (List.cons v1 (List.cons v2 List.nil)) v0 (by nofun)):=by intros; rfl
theorem aSB:type_of% (fun v0 v1 v2 v3 v4 v5 => @LV.eq_2 (List.cons v1 (List.cons v2 (List.cons v3 (List.cons v4 v5)))) v0 (by nofun)):=by intros; rfl
theorem aTK:type_of% (fun v0 v1 v2 v3 v4 => @dR.eq_2 v0 v1 (Go.Operand.tmp v4) v2 v3 (by nofun)):=by intros; rfl
theorem aTo:type_of% (fun v0 v1 v2 v3 => @dR.eq_2 v0 v1 (Go.Operand.const v3) v2 (A.d D.undef) (by nofun)):=by intros; rfl
theorem aUs:type_of% (fun v0 v1 v2 v3 v4 v5 => @dR.eq_2 v0 v1 (Go.Operand.const v3) v2 (A.d (D.int v4 v5)) (by nofun)):=by intros; rfl
theorem aVz:type_of% (fun v0 v1 v2 v3 v4 => @dR.eq_2 v0 v1 (Go.Operand.const v3) v2 (A.d (D.bool v4)) (by nofun)):=by intros; rfl
theorem aUA:type_of% (fun v0 v1 v2 v3 v4 => @dR.eq_2 v0 v1 (Go.Operand.const v3) v2 (A.d (D.str v4)) (by nofun)):=by intros; rfl
theorem aTb:type_of% (fun v0 v1 v2 v3 v4 v5 => @dR.eq_2 v0 v1 (Go.Operand.const v3) v2 (A.d (D.ivs v4 v5)) (by nofun)):=by intros; rfl
theorem aTv:type_of% (fun v0 v1 v2 v3 v4 => @dR.eq_2 v0 v1 (Go.Operand.const v3) v2 (A.d (D.iptr v4)) (by nofun)):=by intros; rfl
theorem aVx:type_of% (fun v0 v1 v2 v3 => @dR.eq_2 v0 v1 (Go.Operand.const v3) v2 (A.d D.nilp) (by nofun)):=by intros; rfl
theorem aVy:type_of% (fun v0 v1 v2 v3 v4 v5 => @dR.eq_2 v0 v1 (Go.Operand.const v3) v2 (A.d (D.fn v4 v5)) (by nofun)):=by intros; rfl
theorem aUQ:type_of% (fun v0 v1 v2 v3 => @dR.eq_2 v0 v1 (Go.Operand.const v3) v2 (A.d D.nilfn) (by nofun)):=by intros; rfl
theorem aSS:type_of% (fun v0 v1 v2 v3 => @dR.eq_2 v0 v1 (Go.Operand.const v3) v2 (A.d D.nili) (by nofun)):=by intros; rfl
theorem aV3:type_of% (fun v0 v1 v2 v3 => @dR.eq_2 v0 v1 (Go.Operand.const v3) v2 (A.d D.nilm) (by nofun)):=by intros; rfl
theorem aTG:type_of% (fun v0 v1 v2 v3 v4 v5 => @dR.eq_2 v0 v1 (Go.Operand.const v3) v2 (A.d (D.ifc v4 v5)) (by nofun)):=by intros; rfl
theorem aS5:type_of% (fun v0 v1 v2 v3 v4 v5 v6 v7 => @dR.eq_2 v0 v1 (Go.Operand.const v3) v2 (A.sl v4 v5 v6 v7) (by nofun)):=by intros; rfl
theorem aSF:type_of% (fun v0 v1 v2 v3 v4 v5 v6 => @dR.eq_2 v0 v1 (Go.Operand.const v3) v2 (A.ptr v4 v5 v6) (by nofun)):=by intros; rfl
theorem aTq:type_of% (fun v0 v1 v2 v3 v4 => @dR.eq_2 v0 v1 (Go.Operand.const v3) v2 (A.mp v4) (by nofun)):=by intros; rfl
theorem aWr:type_of% (fun v0 v1 v2 v3 v4 v5 => @dR.eq_2 v0 v1 (Go.Operand.const v3) v2 (A.clo v4 v5) (by nofun)):=by intros; rfl
theorem aWb:type_of% (fun v0 v1 v2 v3 v4 => @dR.eq_2 v0 v1 (Go.Operand.const v3) v2 (A.agg v4) (by nofun)):=by intros; rfl
theorem aTU:type_of% (fun v0 v1 v2 v3 v4 => @dR.eq_2 v0 v1 (Go.Operand.const v3) v2 (A.tup v4) (by nofun)):=by intros; rfl
theorem aTt:type_of% (fun v0 v1 v2 v3 => @dR.eq_2 v0 v1 (Go.Operand.const v3) v2 A.junk (by nofun)):=by intros; rfl
theorem aUj:type_of% (fun v0 v1 v2 v3 v4 => @dR.eq_2 v0 v1 (Go.Operand.global v4) v2 v3 (by nofun)):=by intros; rfl
theorem aTa:type_of% (fun v0 v1 v2 v3 v4 => @dR.eq_2 v0 v1 (Go.Operand.func v4) v2 v3 (by nofun)):=by intros; rfl
theorem aUB:type_of% (fun v0 => @b5.eq_2 (Go.Op.move v0) (by nofun)):=by intros; rfl
theorem aT5:type_of% (fun v0 => @b5.eq_2 (Go.Op.assign v0) (by nofun)):=by intros; rfl
theorem aVF:type_of% (fun v0 v1 v2 => @b5.eq_2 (Go.Op.pick v0 v1 v2) (by nofun)):=by intros; rfl
theorem aVO:type_of% (fun v0 => @b5.eq_2 (Go.Op.alloc v0) (by nofun)):=by intros; rfl
theorem aUO:type_of% (fun v0 v1 => @b5.eq_2 (Go.Op.box v0 v1) (by nofun)):=by intros; rfl
theorem aU2:type_of% (fun v0 v1 => @b5.eq_2 (Go.Op.build v0 v1) (by nofun)):=by intros; rfl
theorem aUg:type_of% (fun v0 v1 v2 => @b5.eq_2 (Go.Op.buildSlice v0 v1 v2) (by nofun)):=by intros; rfl
theorem aS4:type_of% (fun v0 v1 v2 v3 => @b5.eq_2 (Go.Op.insert v0 v1 v2 v3) (by nofun)):=by intros; rfl
theorem aSH:type_of% (fun v0 v1 => @b5.eq_2 (Go.Op.load v0 v1) (by nofun)):=by intros; rfl
theorem aSC:type_of% (fun v0 v1 v2 => @b5.eq_2 (Go.Op.store v0 v1 v2) (by nofun)):=by intros; rfl
theorem aVK:type_of% (fun v0 => @b5.eq_2 (Go.Op.ready v0) (by nofun)):=by intros; rfl
theorem aTB:type_of% (fun v0 => @b5.eq_2 (Go.Op.waits v0) (by nofun)):=by intros; rfl
theorem aUS:type_of% (fun v0 => @b5.eq_2 (Go.Op.nilCheck v0) (by nofun)):=by intros; rfl
theorem aUZ:type_of% (fun v0 v1 v2 v3 v4 => @b5.eq_2 (Go.Op.binOp v0 v1 v2 v3 v4) (by nofun)):=by intros; rfl
theorem aSO:type_of% (fun v0 v1 v2 => @b5.eq_2 (Go.Op.unOp v0 v1 v2) (by nofun)):=by intros; rfl
theorem aUd:type_of% (fun v0 v1 v2 => @b5.eq_2 (Go.Op.convert v0 v1 v2) (by nofun)):=by intros; rfl
theorem aTi:type_of% (fun v0 v1 => @b5.eq_2 (Go.Op.sliceToArrayPointer v0 v1) (by nofun)):=by intros; rfl
theorem aSD:type_of% (fun v0 v1 => @b5.eq_2 (Go.Op.makeInterface v0 v1) (by nofun)):=by intros; rfl
theorem aTx:type_of% (fun v0 v1 v2 => @b5.eq_2 (Go.Op.makeFunc v0 v1 v2) (by nofun)):=by intros; rfl
theorem aVc:type_of% (fun v0 v1 => @b5.eq_2 (Go.Op.makeMap v0 v1) (by nofun)):=by intros; rfl
theorem aWo:type_of% (fun v0 v1 => @b5.eq_2 (Go.Op.makeChan v0 v1) (by nofun)):=by intros; rfl
theorem aTX:type_of% (fun v0 v1 v2 => @b5.eq_2 (Go.Op.makeSlice v0 v1 v2) (by nofun)):=by intros; rfl
theorem aUx:type_of% (fun v0 v1 v2 v3 v4 => @b5.eq_2 (Go.Op.slice v0 v1 v2 v3 v4) (by nofun)):=by intros; rfl
theorem aSQ:type_of% (fun v0 v1 v2 => @b5.eq_2 (Go.Op.fieldAddr v0 v1 v2) (by nofun)):=by intros; rfl
theorem aTJ:type_of% (fun v0 v1 v2 => @b5.eq_2 (Go.Op.field v0 v1 v2) (by nofun)):=by intros; rfl
theorem aVm:type_of% (fun v0 v1 v2 => @b5.eq_2 (Go.Op.indexAddr v0 v1 v2) (by nofun)):=by intros; rfl
theorem aVi:type_of% (fun v0 v1 v2 => @b5.eq_2 (Go.Op.index v0 v1 v2) (by nofun)):=by intros; rfl
theorem aUT:type_of% (fun v0 v1 v2 v3 => @b5.eq_2 (Go.Op.lookup v0 v1 v2 v3) (by nofun)):=by intros; rfl
theorem aT0:type_of% (fun v0 v1 v2 v3 => @b5.eq_2 (Go.Op.mapUpdate v0 v1 v2 v3) (by nofun)):=by intros; rfl
theorem aVl:type_of% (fun v0 v1 v2 => @b5.eq_2 (Go.Op.mapEntry v0 v1 v2) (by nofun)):=by intros; rfl
theorem aTP:type_of% (fun v0 v1 v2 v3 => @b5.eq_2 (Go.Op.entryStore v0 v1 v2 v3) (by nofun)):=by intros; rfl
theorem aU3:type_of% (fun v0 v1 => @b5.eq_2 (Go.Op.range v0 v1) (by nofun)):=by intros; rfl
theorem aUl:type_of% (fun v0 v1 => @b5.eq_2 (Go.Op.next v0 v1) (by nofun)):=by intros; rfl
theorem aUu:type_of% (fun v0 => @b5.eq_2 (Go.Op.entry v0) (by nofun)):=by intros; rfl
theorem aUM:type_of% (fun v0 v1 v2 v3 => @b5.eq_2 (Go.Op.typeAssert v0 v1 v2 v3) (by nofun)):=by intros; rfl
theorem aV4:type_of% (fun v0 v1 => @b5.eq_2 (Go.Op.extract v0 v1) (by nofun)):=by intros; rfl
theorem aVE:type_of% (fun v0 => @b5.eq_2 (Go.Op.go v0) (by nofun)):=by intros; rfl
theorem aV7:type_of% (fun v0 => @b5.eq_2 (Go.Op.defer v0) (by nofun)):=by intros; rfl
theorem aTy:type_of% (fun v0 => @b5.eq_2 (Go.Op.panic v0) (by nofun)):=by intros; rfl
theorem aVp:type_of% (fun v0 v1 => @b5.eq_2 (Go.Op.send v0 v1) (by nofun)):=by intros; rfl
theorem aUm:type_of% (fun v0 v1 v2 => @b5.eq_2 (Go.Op.recv v0 v1 v2) (by nofun)):=by intros; rfl
theorem aSG:type_of% (fun v0 v1 => @b5.eq_2 (Go.Op.select v0 v1) (by nofun)):=by intros; rfl
theorem aVB:type_of% (fun v0 v1 => @a8.eq_3 v0 (A.d D.undef) v1 (by nofun)):=by intros; rfl
theorem aTn:type_of% (fun v0 v1 v2 v3 => @a8.eq_3 v0 (A.d (D.int v2 v3)) v1 (by nofun)):=by intros; rfl
theorem aVJ:type_of% (fun v0 v1 v2 => @a8.eq_3 v0 (A.d (D.bool v2)) v1 (by nofun)):=by intros; rfl
theorem aWc:type_of% (fun v0 v1 v2 => @a8.eq_3 v0 (A.d (D.str v2)) v1 (by nofun)):=by intros; rfl
theorem aUX:type_of% (fun v0 v1 v2 v3 => @a8.eq_3 v0 (A.d (D.ivs v2 v3)) v1 (by nofun)):=by intros; rfl
theorem aV0:type_of% (fun v0 v1 v2 => @a8.eq_3 v0 (A.d (D.iptr v2)) v1 (by nofun)):=by intros; rfl
theorem aV9:type_of% (fun v0 v1 => @a8.eq_3 v0 (A.d D.nilp) v1 (by nofun)):=by intros; rfl
theorem aUP:type_of% (fun v0 v1 v2 v3 => @a8.eq_3 v0 (A.d (D.fn v2 v3)) v1 (by nofun)):=by intros; rfl
theorem aT7:type_of% (fun v0 v1 => @a8.eq_3 v0 (A.d D.nilfn) v1 (by nofun)):=by intros; rfl
theorem aTH:type_of% (fun v0 v1 => @a8.eq_3 v0 (A.d D.nili) v1 (by nofun)):=by intros; rfl
theorem aSP:type_of% (fun v0 v1 => @a8.eq_3 v0 (A.d D.nilm) v1 (by nofun)):=by intros; rfl
theorem aVH:type_of% (fun v0 v1 v2 v3 => @a8.eq_3 v0 (A.d (D.ifc v2 v3)) v1 (by nofun)):=by intros; rfl
theorem aWj:type_of% (fun v0 v1 v2 v3 v4 v5 => @a8.eq_3 v0 (A.sl v2 v3 v4 v5) v1 (by nofun)):=by intros; rfl
theorem aTd:type_of% (fun v0 v1 v2 v3 v4 => @a8.eq_3 v0 (A.ptr v2 v3 v4) v1 (by nofun)):=by intros; rfl
theorem aTz:type_of% (fun v0 v1 v2 => @a8.eq_3 v0 (A.mp v2) v1 (by nofun)):=by intros; rfl
theorem aUH:type_of% (fun v0 v1 v2 v3 => @a8.eq_3 v0 (A.clo v2 v3) v1 (by nofun)):=by intros; rfl
theorem aU9:type_of% (fun v0 v1 v2 => @a8.eq_3 v0 (A.agg v2) v1 (by nofun)):=by intros; rfl
theorem aWh:type_of% (fun v0 v1 v2 => @a8.eq_3 v0 (A.tup v2) v1 (by nofun)):=by intros; rfl
theorem aTg:type_of% (fun v0 v1 => @a8.eq_3 v0 A.junk v1 (by nofun)):=by intros; rfl
theorem aT6:type_of% (fun v0 v1 v2 v3 => @mapO.eq_3 v0 (O.arr v1 v2 v3) (by nofun) (by nofun)):=by intros; rfl
theorem aWa:type_of% (fun v0 v1 v2 v3 => @mapO.eq_3 v0 (O.ice v1 v2 v3) (by nofun) (by nofun)):=by intros; rfl
theorem aTm:type_of% (fun v0 v1 => @mapO.eq_3 v0 (O.log v1) (by nofun) (by nofun)):=by intros; rfl
theorem aSV:type_of% (fun v0 v1 => @mapO.eq_3 v0 (O.mp v1) (by nofun) (by nofun)):=by intros; rfl
theorem aVo:type_of% (fun v0 => @mapO.eq_3 v0 O.void (by nofun) (by nofun)):=by intros; rfl
theorem aVj:type_of% (fun v0 v1 => @frzA.eq_2 v0 (A.d v1) (by nofun)):=by intros; rfl
theorem aSU:type_of% (fun v0 v1 v2 v3 v4 => @frzA.eq_2 v0 (A.sl v1 v2 v3 v4) (by nofun)):=by intros; rfl
theorem aWq:type_of% (fun v0 v1 v2 v3 => @frzA.eq_2 v0 (A.ptr v1 v2 v3) (by nofun)):=by intros; rfl
theorem aV6:type_of% (fun v0 v1 => @frzA.eq_2 v0 (A.mp v1) (by nofun)):=by intros; rfl
theorem aUh:type_of% (fun v0 v1 v2 => @frzA.eq_2 v0 (A.clo v1 v2) (by nofun)):=by intros; rfl
theorem aTc:type_of% (fun v0 v1 => @frzA.eq_2 v0 (A.tup v1) (by nofun)):=by intros; rfl
theorem aSM:type_of% (fun v0 => @frzA.eq_2 v0 A.junk (by nofun)):=by intros; rfl
theorem aSu:type_of% (fun v0 v1 v2 v3 v4 v5 v6 => @j9.eq_4 v0 v1 v2 (Go.Callee.invoke v5 v6) v3 v4 (by nofun) (by nofun)):=by intros; rfl
theorem UN0:type_of% (AI @aHG (AI @aK4 (AI @aIG (AI @aFV (AI @aJT (AI @aOo (AI @aQF (AI @aLK (AI @aQU (AI @aIn (AI @aP5 (AI @aLC (AI @aLen.eq_def (AI @aBG (AI @aJ2 (AI @aJE (AI @aMt (AI @aGd (AI @aDV (AI @aLb (AI @aFh (AI @aHS (AI @aEi (AI @aBx (AI @aCK (AI @aLi (AI @aLE (AI @aK9 (AI @aKU (AI @aQD (AI @aQ3 (AI @aQb (AI @List.replicate.eq_1.{0} (AI @List.replicate.eq_2.{0} (AI @List.range'.eq_1 (AI @List.range'.eq_2 (AI True.intro (AI @H8.eq_1 (AI @H8.eq_2 @ZK.eq_1))))))))))))))))))))))))))))))))))))))) :=
 ⟨@aHG,@aK4,@aIG,@aFV,@aJT,@aOo,@aQF,@aLK,@aQU,@aIn,@aP5,@aLC,@aLen.eq_def,@aBG,@aJ2,@aJE,@aMt,@aGd,@aDV,@aLb,@aFh,@aHS,@aEi,@aBx,@aCK,@aLi,@aLE,@aK9,@aKU,@aQD,@aQ3,@aQb,@List.replicate.eq_1.{0},@List.replicate.eq_2.{0},@List.range'.eq_1,@List.range'.eq_2,True.intro,@H8.eq_1,@H8.eq_2,@ZK.eq_1⟩
theorem UN1:type_of% (AI @aPut.eq_1 (AI @aPut.eq_2 (AI @kO.eq_1 (AI @kO.eq_2 (AI @UNx1 (AI @UNx2 (AI @UNx3 (AI @UNx4 (AI @outA.eq_1 (AI @UNx5 (AI @UNx6 (AI @UNx7 (AI @UNx8 (AI @UNx9 (AI @aX9 (AI @aYq (AI @outS.eq_1 (AI @aYL (AI @aYC (AI @aYz (AI @aYx (AI @aZj (AI @aYt (AI @aYm (AI @aYR (AI @aZe (AI @aYu (AI @aYU (AI @aXQ (AI @outS.eq_3 (AI @outS.eq_4 (AI @outS.eq_5 (AI @outS.eq_6 (AI @aY1 (AI @aYO (AI @aZf (AI @QM.eq_1 (AI @QM.eq_2 (AI @idsA.eq_1 @idsA.eq_2))))))))))))))))))))))))))))))))))))))) :=
 ⟨@aPut.eq_1,@aPut.eq_2,@kO.eq_1,@kO.eq_2,@UNx1,@UNx2,@UNx3,@UNx4,@outA.eq_1,@UNx5,@UNx6,@UNx7,@UNx8,@UNx9,@aX9,@aYq,@outS.eq_1,@aYL,@aYC,@aYz,@aYx,@aZj,@aYt,@aYm,@aYR,@aZe,@aYu,@aYU,@aXQ,@outS.eq_3,@outS.eq_4,@outS.eq_5,@outS.eq_6,@aY1,@aYO,@aZf,@QM.eq_1,@QM.eq_2,@idsA.eq_1,@idsA.eq_2⟩
theorem UN2:type_of% (AI @idsA.eq_3 (AI @idsA.eq_4 (AI @idsA.eq_5 (AI @idsA.eq_6 (AI @idsA.eq_7 (AI @idsA.eq_8 (AI @idsL.eq_1 (AI @idsL.eq_2 (AI @mapA.eq_1 (AI @mapA.eq_2 (AI @mapA.eq_3 (AI @mapA.eq_4 (AI @mapA.eq_5 (AI @mapA.eq_6 (AI @mapA.eq_7 (AI @mapA.eq_8 (AI @dM.eq_1 (AI @dM.eq_2 (AI @eM.eq_1 (AI @eM.eq_2 (AI @eM.eq_3 (AI @eM.eq_4 (AI @eM.eq_5 (AI @eM.eq_6 (AI @eM.eq_7 (AI @eM.eq_8 (AI @NW.eq_1 (AI @aCD.eq_1 (AI @fN.eq_1 (AI @oM.eq_1 (AI @j2.eq_1 (AI @j2.eq_2 (AI @dF.eq_1 (AI @dF.eq_2 (AI @dF.eq_3 (AI @dF.eq_4 (AI @dF.eq_5 (AI @dF.eq_6 (AI @dF.eq_7 @aW.eq_1))))))))))))))))))))))))))))))))))))))) :=
 ⟨@idsA.eq_3,@idsA.eq_4,@idsA.eq_5,@idsA.eq_6,@idsA.eq_7,@idsA.eq_8,@idsL.eq_1,@idsL.eq_2,@mapA.eq_1,@mapA.eq_2,@mapA.eq_3,@mapA.eq_4,@mapA.eq_5,@mapA.eq_6,@mapA.eq_7,@mapA.eq_8,@dM.eq_1,@dM.eq_2,@eM.eq_1,@eM.eq_2,@eM.eq_3,@eM.eq_4,@eM.eq_5,@eM.eq_6,@eM.eq_7,@eM.eq_8,@NW.eq_1,@aCD.eq_1,@fN.eq_1,@oM.eq_1,@j2.eq_1,@j2.eq_2,@dF.eq_1,@dF.eq_2,@dF.eq_3,@dF.eq_4,@dF.eq_5,@dF.eq_6,@dF.eq_7,@aW.eq_1⟩
theorem UN3:type_of% (AI @aW.eq_2 (AI @tU.eq_1 (AI @tU.eq_2 (AI @tU.eq_3 (AI @aY6 (AI @eC.eq_1 (AI @eC.eq_2 (AI @aZd (AI @aYJ (AI @aYp (AI @aZa (AI @aYa (AI @aYW (AI @aX5 (AI @aZu (AI @aYj (AI @aYY (AI @aY2 (AI @aYB (AI @aYn (AI @aY8 (AI @aYs (AI @aXZ (AI @aYf (AI @aYc (AI @tidy.eq_1 (AI @tidy.eq_2 (AI @aZy (AI @aYZ (AI @aYP (AI @dD.eq_1 (AI @aYb (AI @aZn (AI @aX1 (AI @aZb (AI @aYG (AI @aYi (AI @aYr (AI @dD.eq_3 @oC.eq_1))))))))))))))))))))))))))))))))))))))) :=
 ⟨@aW.eq_2,@tU.eq_1,@tU.eq_2,@tU.eq_3,@aY6,@eC.eq_1,@eC.eq_2,@aZd,@aYJ,@aYp,@aZa,@aYa,@aYW,@aX5,@aZu,@aYj,@aYY,@aY2,@aYB,@aYn,@aY8,@aYs,@aXZ,@aYf,@aYc,@tidy.eq_1,@tidy.eq_2,@aZy,@aYZ,@aYP,@dD.eq_1,@aYb,@aZn,@aX1,@aZb,@aYG,@aYi,@aYr,@dD.eq_3,@oC.eq_1⟩
theorem UN4:type_of% (AI @aZw (AI @aYA (AI @aZc (AI @aYN (AI @aYQ (AI @aZk (AI @aYF (AI @vZ.eq_1 (AI @y5.eq_1 (AI @aNa.eq_1 (AI @LS.eq_1 (AI @aYh (AI @aX7 (AI @aYE (AI @aXU (AI @aZt (AI @aX2 (AI @aZr (AI @RV.eq_1 (AI @oK.eq_1 (AI @aXY (AI @aXV (AI @aX0 (AI @aXS (AI @aYo (AI @aXT (AI @aYV (AI @keeps.eq_1 (AI @logs.eq_1 (AI @sQ.eq_1 (AI @aZp (AI @aYK (AI @aYS (AI @aZq (AI @aYD (AI @aZv (AI @aY9 (AI @aY5 (AI @FJ.eq_1 @eA.eq_1))))))))))))))))))))))))))))))))))))))) :=
 ⟨@aZw,@aYA,@aZc,@aYN,@aYQ,@aZk,@aYF,@vZ.eq_1,@y5.eq_1,@aNa.eq_1,@LS.eq_1,@aYh,@aX7,@aYE,@aXU,@aZt,@aX2,@aZr,@RV.eq_1,@oK.eq_1,@aXY,@aXV,@aX0,@aXS,@aYo,@aXT,@aYV,@keeps.eq_1,@logs.eq_1,@sQ.eq_1,@aZp,@aYK,@aYS,@aZq,@aYD,@aZv,@aY9,@aY5,@FJ.eq_1,@eA.eq_1⟩
theorem UN5:type_of% (AI @eA.eq_2 (AI @eA.eq_3 (AI @eA.eq_4 (AI @qJ.eq_1 (AI @wO.eq_1 (AI @LY.eq_1 (AI @tM.eq_1 (AI @tM.eq_2 (AI @AQ.eq_1 (AI @nA.eq_1 (AI @fH.eq_1 (AI @fH.eq_2 (AI @fH.eq_3 (AI @frzL.eq_1 (AI @iV.eq_1 (AI @iV.eq_2 (AI @frz.eq_1 (AI @frz.eq_2 (AI @frz.eq_3 (AI @frz.eq_4 (AI @aY3 (AI @aZs (AI @aX4 (AI @aY4 (AI @aZm (AI @frz0.eq_1 (AI @frz0.eq_2 (AI @aYd (AI @aX8 (AI @aXW (AI @aYI (AI @aYw (AI @aZh (AI @deep.eq_1 (AI @a6.eq_1 (AI @aX3 (AI @aYX (AI @aX6 (AI @aXX @aTQ))))))))))))))))))))))))))))))))))))))) :=
 ⟨@eA.eq_2,@eA.eq_3,@eA.eq_4,@qJ.eq_1,@wO.eq_1,@LY.eq_1,@tM.eq_1,@tM.eq_2,@AQ.eq_1,@nA.eq_1,@fH.eq_1,@fH.eq_2,@fH.eq_3,@frzL.eq_1,@iV.eq_1,@iV.eq_2,@frz.eq_1,@frz.eq_2,@frz.eq_3,@frz.eq_4,@aY3,@aZs,@aX4,@aY4,@aZm,@frz0.eq_1,@frz0.eq_2,@aYd,@aX8,@aXW,@aYI,@aYw,@aZh,@deep.eq_1,@a6.eq_1,@aX3,@aYX,@aX6,@aXX,@aTQ⟩
theorem UN6:type_of% (AI @aVA (AI @aVs (AI @eS.eq_1 (AI @c9.eq_1 (AI @c9.eq_2 (AI @c9.eq_3 (AI @c9.eq_4 (AI @aVd (AI @aVZ (AI @aT3 (AI @aVa (AI @aTs (AI @aSA (AI @aTD (AI @aUN (AI @aSy (AI @aUf (AI @aUC (AI @aUo (AI @aVX (AI @aSv (AI @aTR (AI @aTu (AI @pH.eq_1 (AI @aUF (AI @aTA (AI @aUa (AI @aS2 (AI @aVQ (AI @aU7 (AI @aVv (AI @nZ.eq_1 (AI @nZ.eq_2 (AI @nZ.eq_3 (AI @aUy (AI @aTI (AI @aTe (AI @aV2 (AI @aVP @qU.eq_1))))))))))))))))))))))))))))))))))))))) :=
 ⟨@aVA,@aVs,@eS.eq_1,@c9.eq_1,@c9.eq_2,@c9.eq_3,@c9.eq_4,@aVd,@aVZ,@aT3,@aVa,@aTs,@aSA,@aTD,@aUN,@aSy,@aUf,@aUC,@aUo,@aVX,@aSv,@aTR,@aTu,@pH.eq_1,@aUF,@aTA,@aUa,@aS2,@aVQ,@aU7,@aVv,@nZ.eq_1,@nZ.eq_2,@nZ.eq_3,@aUy,@aTI,@aTe,@aV2,@aVP,@qU.eq_1⟩
theorem UN7:type_of% (AI @qU.eq_2 (AI @K0.eq_1 (AI @K0.eq_2 (AI @G9.eq_1 (AI @G9.eq_2 (AI @tupA.eq_1 (AI @aUr (AI @aVW (AI @lF.eq_1 (AI @lF.eq_2 (AI @lF.eq_3 (AI @lF.eq_4 (AI @AU.eq_1 (AI @AU.eq_2 (AI @opds.eq_1 (AI @opds.eq_2 (AI @opds.eq_3 (AI @opds.eq_4 (AI @opds.eq_5 (AI @opds.eq_6 (AI @opds.eq_7 (AI @opds.eq_8 (AI @opds.eq_9 (AI @opds.eq_10 (AI @opds.eq_11 (AI @opds.eq_12 (AI @opds.eq_13 (AI @opds.eq_14 (AI @opds.eq_15 (AI @opds.eq_16 (AI @opds.eq_17 (AI @opds.eq_18 (AI @opds.eq_19 (AI @opds.eq_20 (AI @opds.eq_21 (AI @opds.eq_22 (AI @opds.eq_23 (AI @opds.eq_24 (AI @aTZ @aVS))))))))))))))))))))))))))))))))))))))) :=
 ⟨@qU.eq_2,@K0.eq_1,@K0.eq_2,@G9.eq_1,@G9.eq_2,@tupA.eq_1,@aUr,@aVW,@lF.eq_1,@lF.eq_2,@lF.eq_3,@lF.eq_4,@AU.eq_1,@AU.eq_2,@opds.eq_1,@opds.eq_2,@opds.eq_3,@opds.eq_4,@opds.eq_5,@opds.eq_6,@opds.eq_7,@opds.eq_8,@opds.eq_9,@opds.eq_10,@opds.eq_11,@opds.eq_12,@opds.eq_13,@opds.eq_14,@opds.eq_15,@opds.eq_16,@opds.eq_17,@opds.eq_18,@opds.eq_19,@opds.eq_20,@opds.eq_21,@opds.eq_22,@opds.eq_23,@opds.eq_24,@aTZ,@aVS⟩
theorem UN8:type_of% (AI @aWu (AI @aTT (AI @aVe (AI @aSZ (AI @aSE (AI @aVL (AI @aVM (AI @aWt (AI @aUb (AI @aUU (AI @aST (AI @aUI (AI @aVU (AI @aWn (AI @aVN (AI @aUw (AI @evOp.eq_1 (AI @mP.eq_1 (AI @one.eq_1 (AI @two.eq_1 (AI @LV.eq_1 (AI @aWf (AI @aWm (AI @aUL (AI @aSB (AI @BD.eq_1 (AI @K8.eq_1 (AI @dR.eq_1 (AI @aTK (AI @aTo (AI @aUs (AI @aVz (AI @aUA (AI @aTb (AI @aTv (AI @aVx (AI @aVy (AI @aUQ (AI @aSS @aV3))))))))))))))))))))))))))))))))))))))) :=
 ⟨@aWu,@aTT,@aVe,@aSZ,@aSE,@aVL,@aVM,@aWt,@aUb,@aUU,@aST,@aUI,@aVU,@aWn,@aVN,@aUw,@evOp.eq_1,@mP.eq_1,@one.eq_1,@two.eq_1,@LV.eq_1,@aWf,@aWm,@aUL,@aSB,@BD.eq_1,@K8.eq_1,@dR.eq_1,@aTK,@aTo,@aUs,@aVz,@aUA,@aTb,@aTv,@aVx,@aVy,@aUQ,@aSS,@aV3⟩
theorem UN9:type_of% (AI @aTG (AI @aS5 (AI @aSF (AI @aTq (AI @aWr (AI @aWb (AI @aTU (AI @aTt (AI @aUj (AI @aTa (AI @aNew.eq_1 (AI @m5.eq_1 (AI @m5.eq_2 (AI @m5.eq_3 (AI @m5.eq_4 (AI @Q4.eq_1 (AI @EU.eq_1 (AI @X8.eq_1 (AI @cX.eq_1 (AI @cX.eq_2 (AI @cX.eq_3 (AI @cX.eq_4 (AI @cX.eq_5 (AI @cX.eq_6 (AI @cX.eq_7 (AI @cX.eq_8 (AI @cX.eq_9 (AI @cX.eq_10 (AI @cX.eq_11 (AI @b5.eq_1 (AI @aUB (AI @aT5 (AI @aVF (AI @aVO (AI @aUO (AI @aU2 (AI @aUg (AI @aS4 (AI @aSH @aSC))))))))))))))))))))))))))))))))))))))) :=
 ⟨@aTG,@aS5,@aSF,@aTq,@aWr,@aWb,@aTU,@aTt,@aUj,@aTa,@aNew.eq_1,@m5.eq_1,@m5.eq_2,@m5.eq_3,@m5.eq_4,@Q4.eq_1,@EU.eq_1,@X8.eq_1,@cX.eq_1,@cX.eq_2,@cX.eq_3,@cX.eq_4,@cX.eq_5,@cX.eq_6,@cX.eq_7,@cX.eq_8,@cX.eq_9,@cX.eq_10,@cX.eq_11,@b5.eq_1,@aUB,@aT5,@aVF,@aVO,@aUO,@aU2,@aUg,@aS4,@aSH,@aSC⟩
theorem UN10:type_of% (AI @aVK (AI @aTB (AI @aUS (AI @aUZ (AI @aSO (AI @aUd (AI @aTi (AI @aSD (AI @aTx (AI @aVc (AI @aWo (AI @aTX (AI @aUx (AI @aSQ (AI @aTJ (AI @aVm (AI @aVi (AI @aUT (AI @aT0 (AI @aVl (AI @aTP (AI @aU3 (AI @aUl (AI @aUu (AI @aUM (AI @aV4 (AI @aVE (AI @aV7 (AI @aTy (AI @aVp (AI @aUm (AI @aSG (AI @back.eq_1 (AI @b9.eq_1 (AI @b9.eq_2 (AI @b9.eq_3 (AI @aJ.eq_1 (AI @closed.eq_1 (AI @oZ.eq_1 @a8.eq_1))))))))))))))))))))))))))))))))))))))) :=
 ⟨@aVK,@aTB,@aUS,@aUZ,@aSO,@aUd,@aTi,@aSD,@aTx,@aVc,@aWo,@aTX,@aUx,@aSQ,@aTJ,@aVm,@aVi,@aUT,@aT0,@aVl,@aTP,@aU3,@aUl,@aUu,@aUM,@aV4,@aVE,@aV7,@aTy,@aVp,@aUm,@aSG,@back.eq_1,@b9.eq_1,@b9.eq_2,@b9.eq_3,@aJ.eq_1,@closed.eq_1,@oZ.eq_1,@a8.eq_1⟩
theorem UN11:type_of% (AI @a8.eq_2 (AI @aVB (AI @aTn (AI @aVJ (AI @aWc (AI @aUX (AI @aV0 (AI @aV9 (AI @aUP (AI @aT7 (AI @aTH (AI @aSP (AI @aVH (AI @aWj (AI @aTd (AI @aTz (AI @aUH (AI @aU9 (AI @aWh (AI @aTg (AI @aM.eq_1 (AI @aM.eq_2 (AI @pack.eq_1 (AI @mapO.eq_1 (AI @mapO.eq_2 (AI @aT6 (AI @aWa (AI @aTm (AI @aSV (AI @aVo (AI @cA.eq_1 (AI @frzA.eq_1 (AI @aVj (AI @aSU (AI @aWq (AI @aV6 (AI @aUh (AI @aTc (AI @aSM @l6.eq_1))))))))))))))))))))))))))))))))))))))) :=
 ⟨@a8.eq_2,@aVB,@aTn,@aVJ,@aWc,@aUX,@aV0,@aV9,@aUP,@aT7,@aTH,@aSP,@aVH,@aWj,@aTd,@aTz,@aUH,@aU9,@aWh,@aTg,@aM.eq_1,@aM.eq_2,@pack.eq_1,@mapO.eq_1,@mapO.eq_2,@aT6,@aWa,@aTm,@aSV,@aVo,@cA.eq_1,@frzA.eq_1,@aVj,@aSU,@aWq,@aV6,@aUh,@aTc,@aSM,@l6.eq_1⟩
theorem UN12:type_of% (AI @l6.eq_2 (AI @memD.eq_1 (AI @WL.eq_1 (AI @qD.eq_1 (AI @j9.eq_1 (AI @j9.eq_2 (AI @j9.eq_3 @aSu))))))) :=
 ⟨@l6.eq_2,@memD.eq_1,@WL.eq_1,@qD.eq_1,@j9.eq_1,@j9.eq_2,@j9.eq_3,@aSu⟩
theorem UN:type_of% (AI @UN0 (AI @UN1 (AI @UN2 (AI @UN3 (AI @UN4 (AI @UN5 (AI @UN6 (AI @UN7 (AI @UN8 (AI @UN9 (AI @UN10 (AI @UN11 @UN12)))))))))))) :=
 ⟨@UN0,@UN1,@UN2,@UN3,@UN4,@UN5,@UN6,@UN7,@UN8,@UN9,@UN10,@UN11,@UN12⟩
theorem aYv:type_of% (fun v0 v1 v2 v3 v4 => @slim.eq_9 v0 (Go.Code.rangeFunc v1 v2 v3 v4) (by nofun) (by nofun) (by nofun) (by nofun) (by nofun) (by nofun) (by nofun) (by nofun)):=(fun v0 v1 v2 v3 v4 => @slim.eq_9 v0 (Go.Code.rangeFunc v1 v2 v3 v4) (by nofun) (by nofun) (by nofun) (by nofun) (by nofun) (by nofun) (by nofun) (by nofun))
theorem aXR:type_of% (fun v0 v1 => @slim.eq_9 v0 (Go.Code.scope v1) (by nofun) (by nofun) (by nofun) (by nofun) (by nofun) (by nofun) (by nofun) (by nofun)):=(fun v0 v1 => @slim.eq_9 v0 (Go.Code.scope v1) (by nofun) (by nofun) (by nofun) (by nofun) (by nofun) (by nofun) (by nofun) (by nofun))
theorem aYT:type_of% (fun v0 v1 => @slim.eq_9 v0 (Go.Code.label v1) (by nofun) (by nofun) (by nofun) (by nofun) (by nofun) (by nofun) (by nofun) (by nofun)):=(fun v0 v1 => @slim.eq_9 v0 (Go.Code.label v1) (by nofun) (by nofun) (by nofun) (by nofun) (by nofun) (by nofun) (by nofun) (by nofun))
theorem aZx:type_of% (fun v0 v1 => @slim.eq_9 v0 (Go.Code.goto v1) (by nofun) (by nofun) (by nofun) (by nofun) (by nofun) (by nofun) (by nofun) (by nofun)):=(fun v0 v1 => @slim.eq_9 v0 (Go.Code.goto v1) (by nofun) (by nofun) (by nofun) (by nofun) (by nofun) (by nofun) (by nofun) (by nofun))
theorem aYy:type_of% (fun v0 v1 => @slim.eq_9 v0 (Go.Code.refuse v1) (by nofun) (by nofun) (by nofun) (by nofun) (by nofun) (by nofun) (by nofun) (by nofun)):=(fun v0 v1 => @slim.eq_9 v0 (Go.Code.refuse v1) (by nofun) (by nofun) (by nofun) (by nofun) (by nofun) (by nofun) (by nofun) (by nofun))
theorem aY7:type_of% (@bY.eq_5 Go.Code.skip (by nofun) (by nofun) (by nofun) (by nofun)):=(@bY.eq_5 Go.Code.skip (by nofun) (by nofun) (by nofun) (by nofun))
theorem aYg:type_of% (fun v0 v1 v2 => @bY.eq_5 (Go.Code.region v0 v1 v2) (by nofun) (by nofun) (by nofun) (by nofun)):=(fun v0 v1 v2 => @bY.eq_5 (Go.Code.region v0 v1 v2) (by nofun) (by nofun) (by nofun) (by nofun))
theorem aZi:type_of% (fun v0 v1 v2 v3 => @bY.eq_5 (Go.Code.rangeFunc v0 v1 v2 v3) (by nofun) (by nofun) (by nofun) (by nofun)):=(fun v0 v1 v2 v3 => @bY.eq_5 (Go.Code.rangeFunc v0 v1 v2 v3) (by nofun) (by nofun) (by nofun) (by nofun))
theorem aYk:type_of% (fun v0 => @bY.eq_5 (Go.Code.exit v0) (by nofun) (by nofun) (by nofun) (by nofun)):=(fun v0 => @bY.eq_5 (Go.Code.exit v0) (by nofun) (by nofun) (by nofun) (by nofun))
theorem aSL:type_of% (fun v0 => @bY.eq_5 (Go.Code.scope v0) (by nofun) (by nofun) (by nofun) (by nofun)):=(fun v0 => @bY.eq_5 (Go.Code.scope v0) (by nofun) (by nofun) (by nofun) (by nofun))
theorem aU5:type_of% (fun v0 => @bY.eq_5 (Go.Code.label v0) (by nofun) (by nofun) (by nofun) (by nofun)):=(fun v0 => @bY.eq_5 (Go.Code.label v0) (by nofun) (by nofun) (by nofun) (by nofun))
theorem aU4:type_of% (fun v0 => @bY.eq_5 (Go.Code.goto v0) (by nofun) (by nofun) (by nofun) (by nofun)):=(fun v0 => @bY.eq_5 (Go.Code.goto v0) (by nofun) (by nofun) (by nofun) (by nofun))
theorem aWe:type_of% (@bY.eq_5 Go.Code.ret (by nofun) (by nofun) (by nofun) (by nofun)):=(@bY.eq_5 Go.Code.ret (by nofun) (by nofun) (by nofun) (by nofun))
theorem aVk:type_of% (fun v0 => @bY.eq_5 (Go.Code.refuse v0) (by nofun) (by nofun) (by nofun) (by nofun)):=(fun v0 => @bY.eq_5 (Go.Code.refuse v0) (by nofun) (by nofun) (by nofun) (by nofun))
theorem SLM0:type_of% (AI @Option.getD_some.{0} (AI @List.length_nil.{0} (AI @Nat.add_zero (AI @Nat.zero_add (AI @List.map_cons.{0,0} (AI @List.map_nil.{0,0} (AI @List.getElem?_cons_zero.{0} (AI @List.getElem?_cons_succ.{0} (AI @Option.bind_some.{0,0} (AI @Bool.false_eq_true (AI @if_false.{0} (AI @if_true.{0} (AI @List.length_cons.{0} (AI @List.replicate.eq_1.{0} (AI @List.replicate.eq_2.{0} (AI @List.cons_append.{0} (AI @List.nil_append.{0} (AI @List.append_nil.{0} (AI @List.getD_cons_zero.{0} (AI @List.getD_cons_succ.{0} (AI @bB.eq_1 (AI @bL.eq_1 (AI @lpOf.eq_1 (AI @aX.eq_1 (AI @slim.eq_1 (AI @slim.eq_2 (AI @slim.eq_3 (AI @slim.eq_4 (AI @slim.eq_5 (AI @slim.eq_6 (AI @slim.eq_7 (AI @slim.eq_8 (AI @aYv (AI @aXR (AI @aYT (AI @aZx (AI @aYy (AI @bY.eq_1 (AI @bY.eq_2 @bY.eq_3))))))))))))))))))))))))))))))))))))))) :=
 ⟨@Option.getD_some.{0},@List.length_nil.{0},@Nat.add_zero,@Nat.zero_add,@List.map_cons.{0,0},@List.map_nil.{0,0},@List.getElem?_cons_zero.{0},@List.getElem?_cons_succ.{0},@Option.bind_some.{0,0},@Bool.false_eq_true,@if_false.{0},@if_true.{0},@List.length_cons.{0},@List.replicate.eq_1.{0},@List.replicate.eq_2.{0},@List.cons_append.{0},@List.nil_append.{0},@List.append_nil.{0},@List.getD_cons_zero.{0},@List.getD_cons_succ.{0},@bB.eq_1,@bL.eq_1,@lpOf.eq_1,@aX.eq_1,@slim.eq_1,@slim.eq_2,@slim.eq_3,@slim.eq_4,@slim.eq_5,@slim.eq_6,@slim.eq_7,@slim.eq_8,@aYv,@aXR,@aYT,@aZx,@aYy,@bY.eq_1,@bY.eq_2,@bY.eq_3⟩
theorem SLM1:type_of% (AI @bY.eq_4 (AI @aY7 (AI @aYg (AI @aZi (AI @aYk (AI @aSL (AI @aU5 (AI @aU4 (AI @aWe (AI @aVk (AI @QF.eq_1 (AI @UT.eq_1 @UT.eq_2)))))))))))) :=
 ⟨@bY.eq_4,@aY7,@aYg,@aZi,@aYk,@aSL,@aU5,@aU4,@aWe,@aVk,@QF.eq_1,@UT.eq_1,@UT.eq_2⟩
theorem SLM:type_of% (AI @SLM0 @SLM1) :=
 ⟨@SLM0,@SLM1⟩
theorem LN:type_of% (AI @List.length_append.{0} (AI @List.length_cons.{0} (AI @List.length_nil.{0} (AI @List.length_set.{0} (AI @List.length_replicate.{0} (AI @List.length_map.{0,0} (AI @List.length_take.{0} @List.length_drop.{0}))))))) :=
 ⟨@List.length_append.{0},@List.length_cons.{0},@List.length_nil.{0},@List.length_set.{0},@List.length_replicate.{0},@List.length_map.{0,0},@List.length_take.{0},@List.length_drop.{0}⟩
theorem GT:type_of% (AI @List.getElem?_cons_zero.{0} @List.getElem?_cons_succ.{0}) :=
 ⟨@List.getElem?_cons_zero.{0},@List.getElem?_cons_succ.{0}⟩
end Ev
end Go.Proofs.YtejmccgfigiadaaGreat
