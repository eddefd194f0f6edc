/-
  How each operation goes, in the form in which the evaluator is walked.
-/
import Derived.Test.YtejmccgfigiadaaGreatEvPrim
set_option linter.unusedSimpArgs false
set_option linter.unusedVariables false
namespace Go.Proofs.YtejmccgfigiadaaGreat
namespace Ev
section
variable {R:Type} {E:Env} {call:aW} {thaw:List Nat} {dst:Option Tmp} {s:List A} {h:H} {k:A → H → Option R}
structure Now (p:Prop):Prop where
 it:p
structure Shut (p:Prop):Prop where
 it:p
inductive Box (α:Type) where
 | mk (a:α)
 | no
def box {α:Type} (a:α):Box α:=.mk a
theorem aI5 {α:Type} {a:α}:box a = .mk a:=rfl
theorem aJu {t:Nat} {q:A → Option R}:kv s (.tmp t) q = match box (s.getD t (.d .undef)) with | .no => none | .mk a => q a:=rfl
theorem aI2 {K:IntKind} {n:Int} {q:A → Option R}:kv s (.const (.int K n)) q = q (.d (.int K n)):=rfl
theorem aGD {b:Bool} {q:A → Option R}:kv s (.const (.bool b)) q = q (.d (.bool b)):=rfl
theorem aJo {b:ByteArray} {q:A → Option R}:kv s (.const (.string b)) q = match box b.data.toList with | .no => none | .mk l => q (.d (.str l)):=rfl
theorem aGL {q:A → Option R}:kv s (.const (.pointer none)) q = q (.d .nilp):=rfl
theorem aGA {q:A → Option R}:kv s (.const (.slice none 0 0)) q = q (.d .nils):=rfl
theorem aGE {f:FuncId} {q:A → Option R}:kv s (.func f) q = q (.clo f []):=rfl
theorem aGr {q:List A → Option R}:kvs s [] q = q []:=rfl
theorem aDB {x:Operand} {xs:List Operand} {q:List A → Option R}:kvs s (x :: xs) q = kv s x fun a => kvs s xs fun as => q (a :: as):=by
 unfold kvs kv
 simp only [bR]
 cases cH s x with
 | none => rfl
 | some a => grind
theorem R3 {yes no:List A → Option R}:sH none s yes no = yes s:=rfl
theorem SK {t:Nat} {w:Bool} {yes no:List A → Option R}:sH (some (some t,w)) s yes no = match s.getD t .junk with
  | .d (.bool b) => if b = w then (match box (s.set t (.d (.bool w))) with | .no => none | .mk s => yes s) else (match box (s.set t (.d (.bool (!w)))) with | .no => none | .mk s => no s)
  | .d .undef => no s
  | _ => none:=by
 simp only [sH,List.getD_eq_getElem?_getD]
 cases s[t]? with
 | none => rfl
 | some a =>
  cases a with
  | d x => cases x <;> rfl
  | _ => rfl
theorem aDe {x:Operand}:kOp E call thaw dst (.move x) s h k = kv s x fun a => k a h:=by
 unfold kOp kvs kv
 simp only [opds,bR]
 cases cH s x <;> rfl
def kAsg (thaw:List Nat) (dst:Option Tmp) (h:H) (k:A → H → Option R) (a:A):Option R :=
 match a with
 | .d .nils => match C9 thaw dst with
  | 0 => k (.d .nils) h
  | e + 1 => if e < 1000 then k (.sl h.length 0 0 0) (h ++ [.arr [] e 0]) else k (.sl h.length 0 0 0) (h ++ [.vec [] (e - 1000) 0])
 | a => k a h
theorem HJ {t:Nat}:kOp E call thaw dst (.assign (.tmp t)) s h k = match box (s.getD t (.d .undef)) with | .no => none | .mk a => k a h:=by
 unfold kOp kvs
 rfl
theorem BY {v:Value}:kOp E call thaw dst (.assign (.const v)) s h k = kv s (.const v) (kAsg thaw dst h k):=by
 unfold kOp kvs kv kAsg
 simp only [opds,bR]
 cases cH s (.const v) with
 | none => rfl
 | some a =>
  simp only [r8,Bool.false_eq_true,if_false,evOp,one,DS,dW]
  cases a with
  | d x =>
   cases x with
   | nils => cases ht:C9 thaw dst with
    | zero => simp []
    | succ e => by_cases he:e < 1000 <;> simp [he]
   | _ => rfl
  | _ => rfl
def kRet (r:Option (A × H)) (k:A → H → Option R):Option R :=
 match r with
 | some (a,h') => k a h'
 | none => none
theorem aGQ {op:BinOp} {t:TypeId} {x y:Operand} {t2:TypeId}:kOp E call thaw dst (.binOp op t x y t2) s h k = kv s x fun a => kv s y fun b => kRet (b6 E op t h a b) k:=by
 unfold kOp kvs kv kRet
 simp only [opds,bR]
 cases cH s x with
 | none => rfl
 | some a => cases cH s y <;> rfl
theorem aIo {op:UnOp} {t:TypeId} {x:Operand}:kOp E call thaw dst (.unOp op t x) s h k = kv s x fun a => kRet ((aUn op a).map fun r => (r,h)) k:=by
 unfold kOp kvs kv kRet
 simp only [opds,bR]
 cases cH s x <;> rfl
theorem aE2 {c x y:Operand}:kOp E call thaw dst (.pick c x y) s h k = kv s c fun b => kv s x fun a => kv s y fun a' => kRet (IM h [b,a,a']) k:=by
 unfold kOp kvs kv kRet
 simp only [opds,bR]
 cases cH s c with
 | none => rfl
 | some b => cases cH s x with
  | none => rfl
  | some a => cases cH s y <;> rfl
theorem O8 {x:Operand}:kOp E call thaw dst (.nilCheck x) s h k = kv s x fun a => kRet (qY h a) k:=by
 unfold kOp kvs kv kRet
 simp only [opds,bR]
 cases cH s x <;> rfl
theorem aFj {t u:TypeId} {x:Operand}:kOp E call thaw dst (.convert t u x) s h k = kv s x fun a => kRet (eL E.P h t u a) k:=by
 unfold kOp kvs kv kRet
 simp only [opds,bR]
 cases cH s x <;> rfl
theorem aFb {t:TypeId} {x:Operand}:kOp E call thaw dst (.load t x) s h k = kv s x fun a => kRet ((yK E.P h t a).map fun v => (v,h)) k:=by
 unfold kOp kvs kv kRet
 simp only [opds,bR]
 cases cH s x <;> rfl
theorem aBo {t:TypeId} {x y:Operand}:kOp E call thaw dst (.store t x y) s h k = kv s x fun a => kv s y fun b => kRet ((iY E.P h t a b).map fun h' => (.d .undef,h')) k:=by
 unfold kOp kvs kv kRet
 simp only [opds,bR]
 cases cH s x with
 | none => rfl
 | some a => cases cH s y <;> rfl
theorem aBT {t:TypeId}:kOp E call thaw dst (.alloc t) s h k = match box (dM E.P t) with
  | .no => none
  | .mk none => none
  | .mk (some z) => kRet (aNew h z) k:=by
 unfold kOp kvs kRet
 simp only [opds,bR,r8,Bool.false_eq_true,if_false,evOp,dW,box]
 cases dM E.P t <;> rfl
theorem aGX {t:TypeId} {x:Operand}:kOp E call thaw dst (.box t x) s h k = kv s x fun a => kRet (aNew h a) k:=by
 unfold kOp kvs kv kRet
 simp only [opds,bR]
 cases cH s x <;> rfl
theorem aBf {t:TypeId} {ps:List (Nat × Operand)}:kOp E call thaw dst (.build t ps.toArray) s h k = match box (ps.map (·.2)) with
  | .no => none
  | .mk xs => kvs s xs fun vs => kRet ((sQ E.P t ((ps.map (·.1)).zip vs)).map fun a => (a,h)) k:=by
 rfl
theorem HV {t:TypeId} {n:Nat} {ps:List (Nat × Operand)}:kOp E call thaw dst (.buildSlice t n ps.toArray) s h k = match box (ps.map (·.2)) with
  | .no => none
  | .mk xs => kvs s xs fun vs => kRet (if logs thaw dst = true then GF (jR E.P h t n ((ps.map (·.1)).zip vs)) else if keeps thaw dst = true then pV E.P h t n ((ps.map (·.1)).zip vs) else jR E.P h t n ((ps.map (·.1)).zip vs)) k:=by
 rfl
theorem PC {fn:Fn} {cap:List Operand}:kOp E call thaw dst (.makeFunc fn #[] cap.toArray) s h k = kvs s cap fun vs => kRet (HX h fn true vs) k:=by
 rfl
theorem LY {t:TypeId} {x y:Operand}:kOp E call thaw dst (.makeSlice t x y) s h k = kv s x fun a => kv s y fun b => kRet (hM a fun l => hM b fun c => if keeps thaw dst = true then D2 E.P h t l c else gC E.P h t l c) k:=by
 unfold kOp kvs kv kRet
 simp only [opds,bR]
 cases cH s x with
 | none => rfl
 | some a => cases cH s y <;> rfl
theorem SZ {t:TypeId} {x hi:Operand}:kOp E call thaw dst (.slice t x none (some hi) none) s h k = kvs s [x,hi] fun vs => kRet (n4 E.P h t false true vs) k:=rfl
theorem R4 {t:TypeId} {x lo hi:Operand}:kOp E call thaw dst (.slice t x (some lo) (some hi) none) s h k = kvs s [x,lo,hi] fun vs => kRet (n4 E.P h t true true vs) k:=rfl
theorem LC {t:TypeId} {x:Operand} {f:Nat}:kOp E call thaw dst (.fieldAddr t x f) s h k = kv s x fun a => kRet ((cY E.P t f).bind fun r => (rE r.1 a).map fun r => (r,h)) k:=by
 unfold kOp kvs kv kRet
 simp only [opds,bR]
 cases cH s x <;> rfl
theorem L5 {t:TypeId} {x y:Operand}:kOp E call thaw dst (.indexAddr t x y) s h k = kv s x fun a => kv s y fun b => kRet (hM b fun i => (nL E.P h t a i).map fun r => (r,h)) k:=by
 unfold kOp kvs kv kRet
 simp only [opds,bR]
 cases cH s x with
 | none => rfl
 | some a => cases cH s y <;> rfl
theorem aCm {t:TypeId} {x y:Operand}:kOp E call thaw dst (.index t x y) s h k = kv s x fun a => kv s y fun b => kRet (hM b fun i => (H6 E.P t a i).map fun r => (r,h)) k:=by
 unfold kOp kvs kv kRet
 simp only [opds,bR]
 cases cH s x with
 | none => rfl
 | some a => cases cH s y <;> rfl
theorem RW {t:TypeId}:kOp E call thaw dst (.makeMap t none) s h k = k (.mp h.length) (h ++ [.mp []]):=rfl
theorem LP {t:TypeId} {x y z:Operand}:kOp E call thaw dst (.mapUpdate t x y z) s h k = kv s x fun a => kv s y fun b => kv s z fun c => kRet (nH E.P h t a b c) k:=by
 unfold kOp kvs kv kRet
 simp only [opds,bR]
 cases cH s x with
 | none => rfl
 | some a => cases cH s y with
  | none => rfl
  | some b => cases cH s z <;> rfl
theorem R5 {x:Operand} {i:Nat}:kOp E call thaw dst (.extract x i) s h k = kv s x fun a => kRet (uE h i a) k:=by
 unfold kOp kvs kv kRet
 simp only [opds,bR]
 cases cH s x <;> rfl
theorem S1 {b:Builtin} {args:List Operand} {tys:List TypeId}:kOp E call thaw dst (.call ⟨.builtin b,args.toArray,tys.toArray⟩) s h k = kvs s args fun vs => kRet (cD E.P h b tys vs) k:=by
 rfl
theorem dP {op:Op} {q:A → H → Foot → Option R} (hp:Now (nW op = true ∧ r8 op = false)):kOpD E call thaw dst op s h q = kOp E call thaw dst op s h fun a _ => q a h {}:=by
 obtain ⟨hp,hc⟩:=hp.it
 unfold kOpD kOp kvs
 rw [hp,hc]
 cases bR s (opds op) with
 | none => rfl
 | some vs => grind
def memD (E:Env) (call:aW) (thaw:List Nat) (dst:Option Tmp) (op:Op) (h:H) (vs:List A):Option (A × H × Foot):=match box (aD aG h (idsL vs) []) with
 | .no => none
 | .mk ord => match box (evOp E call thaw (pack h ord) (dW dst op) (aE (aI ord) vs)) with
  | .mk (some (a,h1)) => if ord.length ≤ h1.length ∧ closed h ord (idsL vs) = true then
    (if (iU E op vs && h1.length - ord.length == 0) = true then some (mapA (back ord h.length h1.length) a,h,{ ids:=ord,ro:=true })
    else some (mapA (back ord h.length h1.length) a,bJ (back ord h.length h1.length) h ord h1,{ ids:=ord ++ List.range' h.length (h1.length - ord.length),ro:=false,wr:=wrOf E op vs ord ++ List.range' h.length (h1.length - ord.length) }))
   else none
  | _ => none
theorem jE {op:Op} {q:A → H → Foot → Option R} (hp:Now (nW op = false ∧ oE op = false)):kOpD E call thaw dst op s h q = match box (opds op) with | .no => none | .mk xs => kvs s xs fun vs => match box (memD E call thaw dst op h vs) with
  | .mk (some (a,h',c)) => q a h' c
  | _ => none:=by
 simp only [box]
 unfold kOpD kvs
 rw [hp.it.1,hp.it.2]
 cases bR s (opds op) with
 | none => rfl
 | some vs =>
  simp only [Bool.false_eq_true,if_false,iC,memD,box]
  cases evOp E call thaw (pack h (aD aG h (idsL vs) [])) (dW dst op) (aE (aI (aD aG h (idsL vs) [])) vs) with
  | none => rfl
  | some r => grind
theorem ON {op:Op} {q:A → H → Foot → Option R} (hp:Now (nW op = false ∧ oE op = true ∧ r8 op = false)):kOpD E call thaw dst op s h q = kvs s (opds op) fun vs => kOp E call thaw dst op s h fun a _ => q a h { ids:=ids0 vs,ro:=true }:=by
 unfold kOpD kOp kvs
 rw [hp.it.1,hp.it.2.1,hp.it.2.2]
 cases bR s (opds op) with
 | none => rfl
 | some vs => grind
theorem TT {x:Operand} {xs:List Operand} {op:Op} {q:A → H → Foot → Option R} (hx:opds op = x :: xs):(kvs s (opds op) fun vs => kOp E call thaw dst op s h fun a _ => q a h { ids:=ids0 vs,ro:=true }) = kv s x fun b => kOp E call thaw dst op s h fun a _ => q a h { ids:=idsA b,ro:=true }:=by
 unfold kOp kv
 rw [hx]
 unfold kvs
 simp only [bR]
 cases cH s x with
 | none => rfl
 | some b =>
  cases bR s xs with
  | none => rfl
  | some bs => rfl
theorem aCp {t:TypeId} {x:Operand} {q:A → H → Foot → Option R}:kOpD E call thaw dst (.load t x) s h q = kv s x fun b => kOp E call thaw dst (.load t x) s h fun a _ => q a h { ids:=idsA b,ro:=true }:=(ON ⟨rfl,rfl,rfl⟩).trans (TT rfl)
theorem V2 {t:TypeId} {x y:Operand} {q:A → H → Foot → Option R}:type_of% (jE (E:=E) (call:=call) (thaw:=thaw) (dst:=dst) (s:=s) (h:=h) (op:=.store t x y) (q:=q) ⟨rfl,rfl⟩):=jE ⟨rfl,rfl⟩
theorem TA {x:Operand} {q:A → H → Foot → Option R}:type_of% (jE (E:=E) (call:=call) (thaw:=thaw) (dst:=dst) (s:=s) (h:=h) (op:=.assign x) (q:=q) ⟨rfl,rfl⟩):=jE ⟨rfl,rfl⟩
theorem V5 {t:TypeId} {q:A → H → Foot → Option R}:type_of% (jE (E:=E) (call:=call) (thaw:=thaw) (dst:=dst) (s:=s) (h:=h) (op:=.alloc t) (q:=q) ⟨rfl,rfl⟩):=jE ⟨rfl,rfl⟩
theorem GA {t:TypeId} {n:Nat} {ps:List (Nat × Operand)} {q:A → H → Foot → Option R}:type_of% (jE (E:=E) (call:=call) (thaw:=thaw) (dst:=dst) (s:=s) (h:=h) (op:=.buildSlice t n ps.toArray) (q:=q) ⟨rfl,rfl⟩):=jE ⟨rfl,rfl⟩
theorem aBq {t u:TypeId} {x:Operand} {q:A → H → Foot → Option R}:type_of% (jE (E:=E) (call:=call) (thaw:=thaw) (dst:=dst) (s:=s) (h:=h) (op:=.convert t u x) (q:=q) ⟨rfl,rfl⟩):=jE ⟨rfl,rfl⟩
theorem HB {t:TypeId} {x y:Operand} {q:A → H → Foot → Option R}:kOpD E call thaw dst (.indexAddr t x y) s h q = kv s x fun b => kOp E call thaw dst (.indexAddr t x y) s h fun a _ => q a h { ids:=idsA b,ro:=true }:=(ON ⟨rfl,rfl,rfl⟩).trans (TT rfl)
theorem SM {args tys:Array _} {q:A → H → Foot → Option R}:type_of% (jE (E:=E) (call:=call) (thaw:=thaw) (dst:=dst) (s:=s) (h:=h) (op:=.call ⟨.builtin .append,args,tys⟩) (q:=q) ⟨rfl,rfl⟩):=jE ⟨rfl,rfl⟩
theorem aE6 {x:Operand} {xs:List Operand} {tys:Array _} {q:A → H → Foot → Option R}:kOpD E call thaw dst (.call ⟨.builtin .len,(x :: xs).toArray,tys⟩) s h q = kv s x fun b => kOp E call thaw dst (.call ⟨.builtin .len,(x :: xs).toArray,tys⟩) s h fun a _ => q a h { ids:=idsA b,ro:=true }:=(ON ⟨rfl,rfl,rfl⟩).trans (TT rfl)
theorem aAY {x:Operand} {q:A → H → Foot → Option R}:type_of% (dP (E:=E) (call:=call) (thaw:=thaw) (dst:=dst) (s:=s) (h:=h) (op:=.move x) (q:=q) ⟨rfl,rfl⟩):=dP ⟨rfl,rfl⟩
theorem aB8 {c x y:Operand} {q:A → H → Foot → Option R}:type_of% (dP (E:=E) (call:=call) (thaw:=thaw) (dst:=dst) (s:=s) (h:=h) (op:=.pick c x y) (q:=q) ⟨rfl,rfl⟩):=dP ⟨rfl,rfl⟩
theorem LD {x:Operand} {q:A → H → Foot → Option R}:type_of% (dP (E:=E) (call:=call) (thaw:=thaw) (dst:=dst) (s:=s) (h:=h) (op:=.nilCheck x) (q:=q) ⟨rfl,rfl⟩):=dP ⟨rfl,rfl⟩
theorem aDZ {op:BinOp} {t:TypeId} {x y:Operand} {t2:TypeId} {q:A → H → Foot → Option R}:type_of% (dP (E:=E) (call:=call) (thaw:=thaw) (dst:=dst) (s:=s) (h:=h) (op:=.binOp op t x y t2) (q:=q) ⟨rfl,rfl⟩):=dP ⟨rfl,rfl⟩
theorem aGI {op:UnOp} {t:TypeId} {x:Operand} {q:A → H → Foot → Option R}:type_of% (dP (E:=E) (call:=call) (thaw:=thaw) (dst:=dst) (s:=s) (h:=h) (op:=.unOp op t x) (q:=q) ⟨rfl,rfl⟩):=dP ⟨rfl,rfl⟩
theorem LJ {fn:Fn} {first cap:Array Operand} {q:A → H → Foot → Option R}:type_of% (dP (E:=E) (call:=call) (thaw:=thaw) (dst:=dst) (s:=s) (h:=h) (op:=.makeFunc fn first cap) (q:=q) ⟨rfl,rfl⟩):=dP ⟨rfl,rfl⟩
theorem IH {t:TypeId} {x:Operand} {f:Nat} {q:A → H → Foot → Option R}:type_of% (dP (E:=E) (call:=call) (thaw:=thaw) (dst:=dst) (s:=s) (h:=h) (op:=.fieldAddr t x f) (q:=q) ⟨rfl,rfl⟩):=dP ⟨rfl,rfl⟩
theorem PG {x:Operand} {i:Nat} {q:A → H → Foot → Option R}:type_of% (dP (E:=E) (call:=call) (thaw:=thaw) (dst:=dst) (s:=s) (h:=h) (op:=.extract x i) (q:=q) ⟨rfl,rfl⟩):=dP ⟨rfl,rfl⟩
theorem YS {t:TypeId} {ps:Array (Nat × Operand)} {q:A → H → Foot → Option R}:type_of% (dP (E:=E) (call:=call) (thaw:=thaw) (dst:=dst) (s:=s) (h:=h) (op:=.build t ps) (q:=q) ⟨rfl,rfl⟩):=dP ⟨rfl,rfl⟩
def aEr (a b:Foot):Bool:=(!a.ro && (!b.ids.isEmpty && a.wr.any b.ids.contains)) || (!b.ro && (!a.ids.isEmpty && b.wr.any a.ids.contains))
theorem aKx {l:List Nat}:l.any (([]:List Nat)).contains = false:=by grind
theorem aCq (a b:Foot):aEr a b = jO a b:=by
 obtain ⟨ia,ra,wa⟩:=a
 obtain ⟨ib,rb,wb⟩:=b
 unfold aEr jO
 cases ia <;> cases ib <;> simp
def eG (ops:List Oper) (cs:List Foot):Bool :=
 let b:=EV ops []
 (List.range cs.length).all fun j => (List.range j).all fun i => (b.getD j 0).testBit i || !aEr (cs.getD i {}) (cs.getD j {})
theorem aJe {src:List Oper} {cs:List Foot} (h:mR src cs = true):eG src cs = true:=by
 unfold eG
 simp only [aCq]
 exact h
theorem Y0 {src:List Oper} {cs:List Foot} {x:Option R} (hc:Shut (eG src cs = true)):(if mR src cs = true then x else none) = x:=if_pos (by
 have:=hc.it
 unfold eG at this
 simp only [aCq] at this
 exact this)
theorem aDF {q:List A → H → Option R}:kOps E call thaw [] s h q = q s h:=rfl
theorem aBp {op:Op} {g:Option (Option Tmp × Bool)} {os:List SO} {q:List A → H → Option R}:kOps E call thaw (⟨dst,op,g⟩ :: os) s h q = sH g s
  (fun s => kOp E call thaw dst op s h fun a h' => match box (aPut s dst a) with | .no => none | .mk s' => kOps E call thaw os s' h' q)
  (fun s => match box (aPut s dst (.d .undef)) with | .no => none | .mk s' => kOps E call thaw os s' h q):=rfl
theorem aBu {cs:List Foot} {q:List A → H → List Foot → Option R}:sU E call thaw [] s h cs q = q s h cs:=rfl
theorem X4 {op:Op} {g:Option (Option Tmp × Bool)} {os:List SO} {cs:List Foot} {q:List A → H → List Foot → Option R}:sU E call thaw (⟨dst,op,g⟩ :: os) s h cs q = sH g s
  (fun s => kOpD E call thaw dst op s h fun a h' c => match box (aPut s dst a) with | .no => none | .mk s' => sU E call thaw os s' h' (cs ++ [c]) q)
  (fun s => match box (aPut s dst (.d .undef)) with | .no => none | .mk s' => sU E call thaw os s' h (cs ++ [{}]) q):=rfl
section
variable {L nf:Nat} {live:List Bool} {lp:Nat → Code} {q:Exit → List A → H → Option R}
theorem XH:aK E call L nf thaw live lp .skip s h q = q .normal s h:=rfl
theorem aBL {l:List SO}:aK E call L nf thaw live lp (.ops l) s h q = kOps E call thaw l s h fun s h => q .normal s h:=rfl
theorem SF {l:List SO} {src:Array Oper}:aK E call L nf thaw live lp (.drawn l src) s h q = sU E call thaw l s h [] fun s h cs => if mR src.toList cs = true then q .normal s h else none:=rfl
theorem aBl {a b:SC}:aK E call L nf thaw live lp (.seq a b) s h q = aK E call L nf thaw live lp a s h fun e s h => match e with
  | .normal => aK E call L nf thaw live lp b s h q
  | e => q e s h:=rfl
theorem Y9 {c:Operand} {x y:SC}:aK E call L nf thaw live lp (.cond c x y) s h q = kv s c fun a => match a with
  | .d (.bool b) => if b = true then aK E call L nf thaw live lp x s h q else aK E call L nf thaw live lp y s h q
  | _ => none:=rfl
theorem ST {id:Nat} {c:SC}:aK E call L nf thaw live lp (.block id c) s h q = aK E call L nf thaw live lp c s h fun e s h => match e with
  | .exit i => if i = id then q .normal s h else q (.exit i) s h
  | e => q e s h:=rfl
theorem Y5 {i:Nat}:aK E call L nf thaw live lp (.loop i) s h q = match box (oT live s) with
  | .no => none
  | .mk m => match box (gc nf m s h) with
   | .mk (s',h') => aM E call L nf thaw live (lp i) m L s' h' q
   | .no => none:=rfl
theorem V1 {id:Nat}:aK E call L nf thaw live lp (.exit id) s h q = q (.exit id) s h:=rfl
theorem aBy:aK E call L nf thaw live lp .ret s h q = q .ret s h:=rfl
theorem MQ {c:Code} {m:List Bool} {n:Nat}:bE E call L nf thaw live c m n q .normal s h = match box (gc nf m s h) with
  | .mk (s',h') => aM E call L nf thaw live c m n s' h' q
  | .no => none:=rfl
theorem YB {c:Code} {m:List Bool} {n i:Nat}:bE E call L nf thaw live c m n q (.exit i) s h = match box (gc nf m s h) with
  | .mk (s',h') => q (.exit i) s' h'
  | .no => none:=rfl
theorem aBc {c:Code} {m:List Bool} {n:Nat}:bE E call L nf thaw live c m n q .ret s h = match box (gc nf m s h) with
  | .mk (s',h') => q .ret s' h'
  | .no => none:=rfl
end
def aY (E:Env) (call:aW) (h:H) (f:FuncId) (args:List A) (k:A → H → Option R):Option R :=
 match bV call E.hint (pack h (aD aG h (idsL args) [])) f (aE (aI (aD aG h (idsL args) [])) args) with
 | some (a,h1) =>
  if (aD aG h (idsL args) []).length ≤ h1.length ∧ closed h (aD aG h (idsL args) []) (idsL args) = true then
   k (mapA (back (aD aG h (idsL args) []) h.length h1.length) a) (bJ (back (aD aG h (idsL args) []) h.length h1.length) h (aD aG h (idsL args) []) h1)
  else none
 | none => none
theorem aLk {f:FuncId} {args:List Operand} {tys:Array TypeId}:kOp E call thaw dst (.call ⟨.value (.func f),args.toArray,tys⟩) s h k = kvs s args fun vs => aY E call h f vs k:=by
 unfold kOp kvs aY
 simp only [opds,bR,cH]
 cases bR s args with
 | none => rfl
 | some vs =>
  simp only [r8,if_true,iC,idsL,idsA,List.nil_append,aE,mapA,evOp,eO,eS,dW,List.append_nil]
  cases bV call E.hint (pack h (aD aG h (idsL vs) [])) f (aE (aI (aD aG h (idsL vs) [])) vs) with
  | none => rfl
  | some r => grind
theorem aCr {f:FuncId} {args:List Operand} {tys:Array TypeId}:kOp E call thaw dst (.call ⟨.value (.func f),args.toArray,tys⟩) s h k = kvs s args fun vs => aY E call h f vs fun a h' => match box h' with | .no => none | .mk h'' => k a h'':=by
 rw [aLk]
 rfl
def C1 (E:Env) (call:aW) (h:H) (f:FuncId) (caps args:List A) (k:A → H → Option R):Option R :=
 match bV call E.hint (pack h (aD aG h (idsL caps ++ idsL args) [])) f (aE (aI (aD aG h (idsL caps ++ idsL args) [])) args ++ aE (aI (aD aG h (idsL caps ++ idsL args) [])) caps) with
 | some (a,h1) =>
  if (aD aG h (idsL caps ++ idsL args) []).length ≤ h1.length ∧ closed h (aD aG h (idsL caps ++ idsL args) []) (idsL caps ++ idsL args) = true then
   k (mapA (back (aD aG h (idsL caps ++ idsL args) []) h.length h1.length) a) (bJ (back (aD aG h (idsL caps ++ idsL args) []) h.length h1.length) h (aD aG h (idsL caps ++ idsL args) []) h1)
  else none
 | none => none
def lT (E:Env) (call:aW) (h:H) (g:A) (args:List A) (k:A → H → Option R):Option R :=
 match g with
 | .d (.fn f caps) => aY E call h f (args ++ caps.map .d) k
 | .clo f caps => C1 E call h f caps args k
 | _ => none
theorem bL:∀ (as bs:List A),idsL (as ++ bs) = idsL as ++ idsL bs
 | [],bs => by simp [idsL]
 | a :: as,bs => by simp [idsL,bL as bs]
theorem aDM:∀ (ds:List D),idsL (ds.map .d) = []
 | [] => by simp [idsL]
 | d :: ds => by simp [idsL,idsA,aDM ds]
theorem cR {f:Nat → Option Nat}:∀ (as bs:List A),aE f (as ++ bs) = aE f as ++ aE f bs
 | [],bs => by simp [aE]
 | a :: as,bs => by simp [aE,cR as bs]
theorem aAg {f:Nat → Option Nat}:∀ (ds:List D),aE f (ds.map .d) = ds.map .d
 | [] => by simp [aE]
 | d :: ds => by simp [aE,mapA,aAg ds]
theorem aJM {g:A} {vs:List A} {tys:Array TypeId} {x:Operand} {args:Array Operand}:(match iC E call thaw h (dW dst (.call ⟨.value x,args,tys⟩)) (g :: vs) with
   | some (a,h',_) => k a h'
   | none => none) = lT E call h g vs k:=by
 unfold iC
 simp only [evOp,eO,dW,aE]
 cases g with
 | d y =>
  cases y with
  | fn f caps =>
   simp only [lT,aY,mapA,eS,idsL,idsA,List.nil_append,bL,aDM,List.append_nil,cR,aAg]
   cases bV call E.hint (pack h (aD aG h (idsL vs) [])) f (aE (aI (aD aG h (idsL vs) [])) vs ++ caps.map .d) with
   | none => rfl
   | some r => grind
  | _ => simp only [lT,mapA,eS]
 | clo f caps =>
  simp only [lT,C1,mapA,eS,idsL,idsA]
  cases bV call E.hint (pack h (aD aG h (idsL caps ++ idsL vs) [])) f (aE (aI (aD aG h (idsL caps ++ idsL vs) [])) vs ++ aE (aI (aD aG h (idsL caps ++ idsL vs) [])) caps) with
  | none => rfl
  | some r => grind
 | sl id gen off len =>
  simp only [lT,mapA]
  cases aI (aD aG h (idsL (A.sl id gen off len :: vs)) []) id <;> rfl
 | ptr id gen off =>
  simp only [lT,mapA]
  cases aI (aD aG h (idsL (A.ptr id gen off :: vs)) []) id <;> rfl
 | mp id =>
  simp only [lT,mapA]
  cases aI (aD aG h (idsL (A.mp id :: vs)) []) id <;> rfl
 | agg cs => simp only [lT,mapA,eS]
 | tup cs => simp only [lT,mapA,eS]
 | junk => simp only [lT,mapA,eS]
theorem aBD {t:Nat} {args:List Operand} {tys:Array TypeId}:kOp E call thaw dst (.call ⟨.value (.tmp t),args.toArray,tys⟩) s h k = match box (s.getD t (.d .undef)) with
  | .no => none
  | .mk g => kvs s args fun vs => lT E call h g vs k:=by
 unfold kOp kvs
 simp only [opds,bR,cH,box]
 cases bR s args with
 | none => rfl
 | some vs => simp only [r8,if_true]; exact aJM
theorem aBj {f:FuncId} {caps:List D} {vs:List A}:lT E call h (.d (.fn f caps)) vs k = match box (vs ++ caps.map .d) with | .no => none | .mk as' => aY E call h f as' k:=rfl
theorem YU {f:FuncId} {caps vs:List A}:lT E call h (.clo f caps) vs k = C1 E call h f caps vs k:=rfl
theorem UA {h:H} {ids:List Nat} {h1:H} {ord:List Nat}:∀ (ord:List Nat) (h h1:H) (f:Nat → Option Nat),ord.length ≤ h1.length → (bJ f h ord h1).length = h.length + (h1.length - ord.length)
 | [],h,h1,f,_ => by simp [bJ]
 | i :: ord,h,[],f,hl => by simp at hl
 | i :: ord,h,o :: h1,f,hl => by
  simp only [bJ,UA (h:=h) (ids:=ids) (h1:=h1) (ord:=ord) ord _ h1 f (by simpa using hl),List.length_set,List.length_cons]
  omega
def wrC (E:Env) (f:FuncId) (ord:List Nat):List Nat:=if (E.hint f).mode == 3 then [] else ord
def FV (E:Env) (f:FuncId) (h h':H) (ord:List Nat):Option (H × Foot):=if ((E.hint f).mode == 1 && h'.length - h.length == 0) = true then some (h,{ ids:=ord,ro:=true }) else some (h',{ ids:=ord ++ List.range' h.length (h'.length - h.length),ro:=false,wr:=wrC E f ord ++ List.range' h.length (h'.length - h.length) })
theorem aHM {f:FuncId} {args:List Operand} {tys:Array TypeId} {q:A → H → Foot → Option R}:kOpD E call thaw dst (.call ⟨.value (.func f),args.toArray,tys⟩) s h q = kvs s args fun vs => match box (aD aG h (idsL vs) []) with
  | .no => none
  | .mk ord => aY E call h f vs fun a h' => if ((E.hint f).mode == 1 && h'.length - h.length == 0) = true then q a h { ids:=ord,ro:=true } else q a h' { ids:=ord ++ List.range' h.length (h'.length - h.length),ro:=false,wr:=wrC E f ord ++ List.range' h.length (h'.length - h.length) }:=by
 unfold kOpD kvs aY
 simp only [opds,bR,cH,box]
 cases bR s args with
 | none => rfl
 | some vs =>
  simp only [nW,oE,Bool.false_eq_true,if_false,iC,idsL,idsA,List.nil_append,aE,mapA,evOp,eO,eS,dW,List.append_nil,iU]
  cases bV call E.hint (pack h (aD aG h (idsL vs) [])) f (aE (aI (aD aG h (idsL vs) [])) vs) with
  | none => rfl
  | some r =>
   obtain ⟨a,h1⟩:=r
   by_cases c1:(aD aG h (idsL vs) []).length ≤ h1.length
   ·by_cases c2:closed h (aD aG h (idsL vs) []) (idsL vs) = true
    ·have e:=UA (h:=h) (ids:=idsL vs) (h1:=h1) (ord:=[]) (aD aG h (idsL vs) []) h h1 (back (aD aG h (idsL vs) []) h.length h1.length) c1
     have e2:(bJ (back (aD aG h (idsL vs) []) h.length h1.length) h (aD aG h (idsL vs) []) h1).length - h.length = h1.length - (aD aG h (idsL vs) []).length:=by omega
     simp only [c1,c2,and_self,if_true,e2]
     first | done | rfl | (by_cases c3:((E.hint f).mode == 1 && h1.length - (aD aG h (idsL vs) []).length == 0) = true <;> simp [c3])
    ·grind
   ·grind
theorem PK {f:FuncId} {args:List Operand} {tys:Array TypeId} {q:A → H → Foot → Option R}:kOpD E call thaw dst (.call ⟨.value (.func f),args.toArray,tys⟩) s h q = kvs s args fun vs => match box (aD aG h (idsL vs) []) with
  | .no => none
  | .mk ord => aY E call h f vs fun a h' => match box (FV E f h h' ord) with | .mk (some (h'',c)) => q a h'' c | _ => none:=by
 rw [aHM]
 congr 1
 funext vs
 simp only [box]
 congr 1
 funext a h'
 unfold FV
 by_cases hc:((E.hint f).mode == 1 && h'.length - h.length == 0) = true
 ·grind
 ·grind
theorem aFZ {t:Nat} {args:List Operand} {tys:Array TypeId} {q:A → H → Foot → Option R} {f:FuncId} {caps:List D} (hg:Now (s.getD t (.d .undef) = .d (.fn f caps))):kOpD E call thaw dst (.call ⟨.value (.tmp t),args.toArray,tys⟩) s h q = kvs s args fun vs => match box (aD aG h (idsL vs) []) with
  | .no => none
  | .mk ord => aY E call h f (vs ++ caps.map .d) fun a h' => if ((E.hint f).mode == 1 && h'.length - h.length == 0) = true then q a h { ids:=ord,ro:=true } else q a h' { ids:=ord ++ List.range' h.length (h'.length - h.length),ro:=false,wr:=wrC E f ord ++ List.range' h.length (h'.length - h.length) }:=by
 have hg:=hg.it
 unfold kOpD kvs aY
 simp only [opds,bR,cH,box,hg]
 cases bR s args with
 | none => rfl
 | some vs =>
  simp only [nW,oE,Bool.false_eq_true,if_false,iC,idsL,idsA,List.nil_append,aE,mapA,evOp,eO,eS,dW,List.append_nil,iU,bL,aDM,cR,aAg]
  cases bV call E.hint (pack h (aD aG h (idsL vs) [])) f (aE (aI (aD aG h (idsL vs) [])) vs ++ caps.map .d) with
  | none => rfl
  | some r =>
   obtain ⟨a,h1⟩:=r
   by_cases c1:(aD aG h (idsL vs) []).length ≤ h1.length
   ·by_cases c2:closed h (aD aG h (idsL vs) []) (idsL vs) = true
    ·have e:=UA (h:=h) (ids:=idsL vs) (h1:=h1) (ord:=[]) (aD aG h (idsL vs) []) h h1 (back (aD aG h (idsL vs) []) h.length h1.length) c1
     have e2:(bJ (back (aD aG h (idsL vs) []) h.length h1.length) h (aD aG h (idsL vs) []) h1).length - h.length = h1.length - (aD aG h (idsL vs) []).length:=by omega
     simp only [c1,c2,and_self,if_true,e2]
     first | done | rfl | (by_cases c3:((E.hint f).mode == 1 && h1.length - (aD aG h (idsL vs) []).length == 0) = true <;> simp [c3])
    ·grind
   ·grind
def aNs (E:Env) (call:aW) (thaw:List Nat) (dst:Option Tmp) (op:Op) (s:List A) (h:H) (q:A → H → Foot → Option R):Option R:=kOpD E call thaw dst op s h q
theorem WP {t:Nat} {args:List Operand} {tys:Array TypeId} {q:A → H → Foot → Option R}:kOpD E call thaw dst (.call ⟨.value (.tmp t),args.toArray,tys⟩) s h q = match box (s.getD t (.d .undef)) with
  | .mk (.d (.fn f caps)) => kvs s args fun vs => match box (aD aG h (idsL vs) []) with
   | .no => none
   | .mk ord => match box (vs ++ caps.map .d) with | .no => none | .mk as' => aY E call h f as' fun a h' => match box (FV E f h h' ord) with | .mk (some (h'',c)) => q a h'' c | _ => none
  | .mk (.clo f []) => kvs s args fun vs => match box (aD aG h (idsL vs) []) with
   | .no => none
   | .mk ord => aY E call h f vs fun a h' => match box (FV E f h h' ord) with | .mk (some (h'',c)) => q a h'' c | _ => none
  | _ => aNs E call thaw dst (.call ⟨.value (.tmp t),args.toArray,tys⟩) s h q:=by
 have key:=fun (f:FuncId) (caps:List D) hg => aFZ (E:=E) (call:=call) (thaw:=thaw) (dst:=dst) (s:=s) (h:=h) (t:=t) (args:=args) (tys:=tys) (q:=q) (f:=f) (caps:=caps) hg
 have k2:∀ f,s.getD t (.d .undef) = .clo f [] → kOpD E call thaw dst (.call ⟨.value (.tmp t),args.toArray,tys⟩) s h q = kOpD E call thaw dst (.call ⟨.value (.func f),args.toArray,tys⟩) s h q:=by
  intro f hg
  unfold kOpD kvs
  simp only [opds,bR,cH,hg]
  cases bR s args <;> rfl
 have fold:∀ (f:FuncId) (h h':H) (ord:List Nat) (a:A),(if ((E.hint f).mode == 1 && h'.length - h.length == 0) = true then q a h { ids:=ord,ro:=true } else q a h' { ids:=ord ++ List.range' h.length (h'.length - h.length),ro:=false,wr:=wrC E f ord ++ List.range' h.length (h'.length - h.length) }) = match box (FV E f h h' ord) with | .mk (some (h'',c)) => q a h'' c | _ => none:=by
  intro f h h' ord a
  unfold FV
  by_cases hc:((E.hint f).mode == 1 && h'.length - h.length == 0) = true
  ·simp only [if_pos hc,box]
  ·simp only [if_neg hc,box]
 generalize hs:s.getD t (.d .undef) = a
 cases a with
 | d x =>
  cases x with
  | fn f caps =>
   rw [key f caps ⟨hs⟩]
   simp only [fold]
   rfl
  | _ => rfl
 | clo f caps =>
  cases caps with
  | nil => rw [k2 f hs]; exact PK
  | cons c caps => rfl
 | _ => rfl
theorem BE (n:Nat) (h:H):aD n h [] [] = []:=by cases n <;> rfl
mutual
theorem pK {f:Nat → Option Nat}:∀ a:A,idsA a = [] → mapA f a = a
 | .d x,_ => by simp only [mapA]
 | .sl id gen off len,h => by simp [idsA] at h
 | .ptr id gen off,h => by simp [idsA] at h
 | .mp id,h => by simp [idsA] at h
 | .clo g caps,h => by simp only [idsA] at h; simp only [mapA]; rw [gE caps h]
 | .agg cs,h => by simp only [idsA] at h; simp only [mapA]; rw [gE cs h]
 | .tup cs,h => by simp only [idsA] at h; simp only [mapA]; rw [gE cs h]
 | .junk,_ => by simp only [mapA]
theorem gE {f:Nat → Option Nat}:∀ as:List A,idsL as = [] → aE f as = as
 | [],_ => by simp only [aE]
 | a :: as,h => by
  simp only [idsL,List.append_eq_nil_iff] at h
  simp only [aE]
  rw [pK a h.1,gE as h.2]
end
theorem aIw {a:A} (h:oR a = true):idsA a = []:=by
 cases a with
 | d x => rfl
 | agg cs =>
  simp only [oR] at h
  simp only [idsA]
  induction cs with
  | nil => rfl
  | cons c cs ih =>
   simp only [List.all_cons,Bool.and_eq_true] at h
   simp only [idsL,ih h.2,List.append_nil]
   cases c <;> first | rfl | simp [isD] at h
 | _ => simp [oR] at h
theorem wE:∀ {as:List A},as.all oR = true → idsL as = []
 | [],_ => rfl
 | a :: as,h => by
  simp only [List.all_cons,Bool.and_eq_true] at h
  simp only [idsL,aIw h.1,wE h.2,List.append_nil]
theorem WU {h:H}:∀ {cs:List A},cs.all isD = true → ∃ ds,frzL h cs = some (ds,h) ∧ ds.map .d = cs
 | [],_ => ⟨[],rfl,rfl⟩
 | c :: cs,hs => by
  simp only [List.all_cons,Bool.and_eq_true] at hs
  obtain ⟨ds,h1,h2⟩:=WU (h:=h) hs.2
  cases c with
  | d x =>
   refine ⟨x :: ds,?_,by simp [h2]⟩
   unfold frzL at h1 ⊢
   simp only [eX]
   have:frz deep h (.d x) = some (x,h):=rfl
   rw [this]
   simp only [h1]
  | _ => simp [isD] at hs
theorem sK {h:H}:∀ {as:List A},as.all oR = true → eJ h as = some (as,h)
 | [],_ => rfl
 | a :: as,hs => by
  simp only [List.all_cons,Bool.and_eq_true] at hs
  have ha:frzA h a = some (a,h):=by
   cases a with
   | d x => rfl
   | agg cs =>
    obtain ⟨ds,h1,h2⟩:=WU (h:=h) (cs:=cs) (by simpa only [oR] using hs.1)
    simp only [frzA,h1,h2]
   | _ => simp [oR] at hs
  simp only [eJ,ha,sK hs.2]
theorem aGj {r:A} (h:gK r = true):j5 r = true ∧ mapA (fun k => back [] 0 0 k) r = r:=by
 cases r with
 | d x => cases x <;> first | exact ⟨rfl,rfl⟩ | simp [gK] at h
 | tup vs =>
  simp only [gK] at h
  have key:i8 vs = true ∧ aE (fun k => back [] 0 0 k) vs = vs:=by
   induction vs with
   | nil => exact ⟨rfl,by simp only [aE]⟩
   | cons v vs ih =>
    simp only [List.all_cons,Bool.and_eq_true] at h
    obtain ⟨i1,i2⟩:=ih h.2
    cases v with
    | d x => cases x <;> first | (exfalso; simp at h; done) | (refine ⟨by simp only [i8,j5,r9,i1,Bool.and_self],by simp only [aE,mapA,i2]⟩)
    | _ => grind
  exact ⟨by simp only [j5]; exact key.1,by simp only [mapA,key.2]⟩
 | _ => simp [gK] at h
theorem aGn {f:FuncId} {args:List A} {r:A} (hs:args.all oR = true) (hc:call f args [] = some (r,[])) (hp:gK r = true ∨ ((E.hint f).mode == 1 || (E.hint f).mode == 3) = false):bV call E.hint [] f args = some (r,[]):=by
 unfold bV
 split
 ·exact hc
 ·rename_i hm
  rw [sK hs]
  simp only [hc]
  rcases hp with hp | hp
  ·rw [hp]; rfl
  ·grind
 ·rename_i hm
  rw [sK hs]
  simp only [hc]
  rcases hp with hp | hp
  ·obtain ⟨h1,h2⟩:=aGj hp
   rw [h1]
   exact congrArg (fun x => some (x,([]:H))) h2
  ·grind
 ·rw [sK hs]
  simp only [hc]
theorem cP {f:FuncId} {args:List A} {r:A} (hs:args.all oR = true) (hc:call f args [] = some (r,[])) (hr:idsA r = []) (hp:gK r = true ∨ ((E.hint f).mode == 1 || (E.hint f).mode == 3) = false):aY E call h f args k = k r h:=by
 unfold aY
 rw [wE hs,BE,gE _ (wE hs)]
 have:pack h [] = []:=rfl
 rw [this,aGn hs hc hp]
 simp only [List.length_nil,Nat.le_refl,true_and,closed,List.all_nil,Bool.and_self,if_true,pK r hr,bJ,List.map_nil,List.append_nil]
def sY (call:aW) (f:FuncId) (args:List A) (k:A → Option R):Option R :=
 match call f args [] with
 | some (r,[]) => if gK r = true then k r else none
 | _ => none
theorem kZ {f:FuncId} {args:List A} {r:A} {k:A → Option R} (hc:call f args [] = some (r,[])) (hp:gK r = true):sY call f args k = k r:=by
 unfold sY
 rw [hc]
 simp only [hp,if_true]
theorem aIR {r:A} (h:gK r = true):idsA r = []:=by
 cases r with
 | d x => rfl
 | tup vs =>
  simp only [gK] at h
  simp only [idsA]
  induction vs with
  | nil => rfl
  | cons v vs ih =>
   simp only [List.all_cons,Bool.and_eq_true] at h
   simp only [idsL,ih h.2,List.append_nil]
   cases v with
   | d x => rfl
   | _ => grind
 | _ => simp [gK] at h
theorem aCu (ord:List Nat) (n:Nat):back ord n ord.length = fun k => ord[k]?:=by
 funext k
 unfold back
 split
 ·rfl
 ·grind
theorem aDq {h:H} {ord ids:List Nat} (hc:closed h ord ids = true) (hn:ord.Nodup) (hl:∀ i ∈ ord,i < h.length):bJ (fun (k:Nat) => ord[k]?) h ord (pack h ord) = h:=by
 apply List.ext_getElem?
 intro id
 rw [yH _ ord h _ id hn hl (by simp [pack])]
 cases hp:aI ord id with
 | none =>
  simp only []
  split
  ·rfl
  ·rename_i hge
   rw [List.getElem?_eq_none (by simp [pack]),List.getElem?_eq_none (by omega)]
   rfl
 | some k =>
  simp only []
  have hm:=F0 hp
  obtain ⟨o,ho⟩:∃ o,h[id]? = some o:=⟨h[id]'(hl id hm),List.getElem?_eq_getElem _⟩
  rw [gX (bC hp) ho,ho,Option.map_some,PL hc hm ho]
theorem aF8 {f:FuncId} {args:List A} (hm:(E.hint f).mode = 1):aY E call h f args k = match box (aD aG h (idsL args) []) with
  | .no => none
  | .mk ord => match box (eJ (pack h ord) (aE (aI ord) args)) with
   | .mk (some (fs,_)) => if closed h ord (idsL args) = true then sY call f fs fun r => k r h else none
   | _ => none:=by
 unfold aY bV
 rw [hm]
 simp only [box]
 cases hf:eJ (pack h (aD aG h (idsL args) [])) (aE (aI (aD aG h (idsL args) [])) args) with
 | none => rfl
 | some r =>
  obtain ⟨fs,h1⟩:=r
  simp only [sY]
  cases hc:call f fs [] with
  | none => simp
  | some r =>
   obtain ⟨a,h2⟩:=r
   cases h2 with
   | cons o h2 => simp
   | nil =>
    by_cases hp:gK a = true
    ·simp only [hp,if_true]
     have hlen:(pack h (aD aG h (idsL args) [])).length = (aD aG h (idsL args) []).length:=by simp [pack]
     simp only [hlen,Nat.le_refl,true_and]
     by_cases hcl:closed h (aD aG h (idsL args) []) (idsL args) = true
     ·simp only [hcl,if_true,aCu,pK a (aIR hp)]
      rw [aDq hcl (bT aG h (idsL args) [] (by simp)) (jC aG h (idsL args) [] (by simp))]
     ·grind
    ·grind
def QM (h:H) (args:List A):Option (List A):=match box (aD aG h (idsL args) []) with
 | .no => none
 | .mk ord => match box (eJ (pack h ord) (aE (aI ord) args)) with
  | .mk (some (fs,_)) => if closed h ord (idsL args) = true then some fs else none
  | _ => none
theorem dR {f:FuncId} {args:List A} (hm:(E.hint f).mode = 1):aY E call h f args k = match box (QM h args) with
  | .mk (some fs) => sY call f fs fun r => k r h
  | _ => none:=by
 rw [aF8 hm]
 unfold QM
 simp only [box]
 cases eJ (pack h (aD aG h (idsL args) [])) (aE (aI (aD aG h (idsL args) [])) args) with
 | none => rfl
 | some r => grind
theorem aG8 {nf:Nat} {h:H} {ord:List Nat} {s:List A}:trim nf h ord s = match box (pack h ord) with
  | .mk p => (aU nf p (aE (aI ord) s),cF nf p)
  | .no => ([],[]):=rfl
theorem aLS {nf:Nat} {m:List Bool} {s:List A} {h:H}:gc nf m s h = match box (tidy m s) with
  | .mk s1 => match box (dF nf h (idsL s1)) with
   | .mk ord => trim nf h ord s1
   | .no => ([],[])
  | .no => ([],[]):=rfl
theorem aG1 {P:Program} {nf:Nat} {exp:Bool} {rs:List ResultVar} {e:Exit} {s:List A} {h:H}:kFin P nf exp rs e s h =
  if kI e then (match j7 P s h rs with
   | some rs => match nC nf exp h rs with
    | some (xs,h2) => match box (dF nf h2 (idsL xs)) with
     | .mk ord => match box (trim nf h2 ord xs) with
      | .mk r => some (tupA r.1,r.2)
      | .no => none
     | .no => none
    | none => none
   | none => none) else none:=rfl
theorem qM (nf:Nat) (h:H) (ids:List Nat):dF nf h ids = aD 1099511627776 h (eE (h.take nf) ++ ids) (List.range nf):=rfl
theorem rng0:List.range 0 = []:=rfl
theorem rng1:List.range 1 = [0]:=rfl
theorem rng2:List.range 2 = [0,1]:=rfl
theorem O1 (h:H) (ids:List Nat):dF 0 h ids = aD 1099511627776 h ids []:=by
 unfold dF
 simp only [List.take_zero,eE,List.nil_append,List.range_zero]
 rfl
theorem uG (n:Nat) (h:H) (acc:List Nat):aD n h [] acc = acc:=by cases n <;> rfl
theorem nK (n:Nat) (h:H) (i:Nat) (todo acc:List Nat):aD (n + 1) h (i :: todo) acc = if acc.contains i = true then aD n h todo acc
  else match h.getD i .void with
   | .box cs => aD n h (todo ++ idsL cs) (acc ++ [i])
   | .vec cs _ _ => aD n h (todo ++ idsL cs) (acc ++ [i])
   | .void => aD n h todo acc
   | _ => aD n h todo (acc ++ [i]):=by
 simp only [aD,List.getD_eq_getElem?_getD]
 split
 ·rfl
 ·grind
theorem aDX {α:Type} {c:Prop} [Decidable c] {a:α} (hc:c):(if c then some a else none) = some a:=if_pos hc
def iAnd (k:IntKind) (a b:Int):Int:=k.wrap (BitVec.ofInt k.bits a &&& BitVec.ofInt k.bits b).toNat
def iXor (k:IntKind) (a b:Int):Int:=k.wrap (BitVec.ofInt k.bits a ^^^ BitVec.ofInt k.bits b).toNat
section
variable {t:TypeId} {K:IntKind} {a b:Int}
theorem aB1:b6 E .add t h (.d (.int K a)) (.d (.int K b)) = some (.d (.int K (K.wrap (a + b))),h):=by simp [b6,aBin]; rfl
theorem aCd:b6 E .sub t h (.d (.int K a)) (.d (.int K b)) = some (.d (.int K (K.wrap (a - b))),h):=by simp [b6,aBin]; rfl
theorem aBC:b6 E .mul t h (.d (.int K a)) (.d (.int K b)) = some (.d (.int K (K.wrap (a * b))),h):=by simp [b6,aBin]; rfl
theorem aBY:b6 E .and t h (.d (.int K a)) (.d (.int K b)) = some (.d (.int K (iAnd K a b)),h):=by simp [b6,aBin]; rfl
theorem aBK:b6 E .xor t h (.d (.int K a)) (.d (.int K b)) = some (.d (.int K (iXor K a b)),h):=by simp [b6,aBin]; rfl
theorem aAU:b6 E .lss t h (.d (.int K a)) (.d (.int K b)) = some (.d (.bool (decide (a < b))),h):=by simp [b6,aBin]
theorem aBw:b6 E .leq t h (.d (.int K a)) (.d (.int K b)) = some (.d (.bool (decide (a ≤ b))),h):=by simp [b6,aBin]
theorem aA7:b6 E .gtr t h (.d (.int K a)) (.d (.int K b)) = some (.d (.bool (decide (b < a))),h):=by simp [b6,aBin]
theorem aA1:b6 E .geq t h (.d (.int K a)) (.d (.int K b)) = some (.d (.bool (decide (b ≤ a))),h):=by simp [b6,aBin]
theorem aA0:b6 E .eql t h (.d (.int K a)) (.d (.int K b)) = some (.d (.bool (decide (a = b))),h):=by simp [b6,aBin]; rfl
theorem aBx:b6 E .neq t h (.d (.int K a)) (.d (.int K b)) = some (.d (.bool (!decide (a = b))),h):=by simp [b6,aBin]; rfl
theorem aA8 (hb:b ≠ 0):b6 E .quo t h (.d (.int K a)) (.d (.int K b)) = some (.d (.int K (K.wrap (a.tdiv b))),h):=by simp [b6,aBin,hb]
theorem aBe (hb:b ≠ 0):b6 E .rem t h (.d (.int K a)) (.d (.int K b)) = some (.d (.int K (a.tmod b)),h):=by simp [b6,aBin,hb]
theorem aBg {K2:IntKind} (hb:0 ≤ b):b6 E .shr t h (.d (.int K a)) (.d (.int K2 b)) = some (.d (.int K (a.fdiv (2 ^ (min b.toNat K.bits)))),h):=by
 have:¬ b < 0:=by omega
 simp [b6,aBin,Op.shift,this]; rfl
theorem aG9 {b:Bool}:aUn .not (.d (.bool b)) = some (.d (.bool (!b))):=rfl
end
end
theorem WD:type_of% (AI @XH (AI @aBL (AI @SF (AI @aBl (AI @Y9 (AI @ST (AI @Y5 (AI @V1 (AI @aBy (AI @aDF (AI @aBp (AI @aBu (AI @X4 (AI @R3 (AI @SK (AI @aJu (AI @aI2 (AI @aGD (AI @aJo (AI @aGA (AI @aGL (AI @aGE (AI @aGr (AI @aDB (AI @aDe (AI @HJ (AI @BY (AI @aGQ (AI @aIo (AI @aE2 (AI @O8 (AI @aFj (AI @aFb (AI @aBo (AI @aBT (AI @aGX (AI @aBf (AI @HV (AI @PC (AI @LY (AI @SZ (AI @R4 (AI @LC (AI @L5 (AI @aCm (AI @R5 (AI @S1 (AI @aCr (AI @aG1 (AI @MQ (AI @YB (AI @aBc (AI @RW @LP))))))))))))))))))))))))))))))))))))))))))))))))))))) :=
 ⟨@XH,@aBL,@SF,@aBl,@Y9,@ST,@Y5,@V1,@aBy,@aDF,@aBp,@aBu,@X4,@R3,@SK,@aJu,@aI2,@aGD,@aJo,@aGA,@aGL,@aGE,@aGr,@aDB,@aDe,@HJ,@BY,@aGQ,@aIo,@aE2,@O8,@aFj,@aFb,@aBo,@aBT,@aGX,@aBf,@HV,@PC,@LY,@SZ,@R4,@LC,@L5,@aCm,@R5,@S1,@aCr,@aG1,@MQ,@YB,@aBc,@RW,@LP⟩
theorem WDD:type_of% (AI @aCp (AI @V2 (AI @TA (AI @V5 (AI @GA (AI @aBq (AI @HB (AI @SM (AI @aE6 (AI @aAY (AI @aB8 (AI @LD (AI @aDZ (AI @aGI (AI @LJ (AI @IH (AI @PG (AI @YS (AI @PK (AI @aBD (AI @aBj @YU))))))))))))))))))))) :=
 ⟨@aCp,@V2,@TA,@V5,@GA,@aBq,@HB,@SM,@aE6,@aAY,@aB8,@LD,@aDZ,@aGI,@LJ,@IH,@PG,@YS,@PK,@aBD,@aBj,@YU⟩
theorem WK0:type_of% (AI @aI5 (AI @aG9 (AI @aB1 (AI @aCd (AI @aBC (AI @aBY (AI @aBK (AI @aA8 (AI @aBe (AI @aBg (AI @aAU (AI @aBw (AI @aA7 (AI @aA1 (AI @aA0 (AI @aBx (AI @List.getD_nil.{0} (AI @List.set_cons_zero.{0} (AI @List.set_cons_succ.{0} (AI @aLS @aG8)))))))))))))))))))) :=
 ⟨@aI5,@aG9,@aB1,@aCd,@aBC,@aBY,@aBK,@aA8,@aBe,@aBg,@aAU,@aBw,@aA7,@aA1,@aA0,@aBx,@List.getD_nil.{0},@List.set_cons_zero.{0},@List.set_cons_succ.{0},@aLS,@aG8⟩
theorem WK1:type_of% (AI @Bool.not_true (AI @Bool.not_false (AI @Bool.true_eq_false (AI @decide_eq_true_eq (AI @decide_eq_false_iff_not (AI @Option.map_some.{0,0} (AI @decide_true (AI @decide_false (AI @aDX (AI @Nat.mul_one (AI @Nat.one_mul (AI @List.drop_zero.{0} (AI @List.all_cons.{0} (AI @List.all_nil.{0} (AI @Bool.and_self (AI @Bool.and_true @Bool.true_and)))))))))))))))) :=
 ⟨@Bool.not_true,@Bool.not_false,@Bool.true_eq_false,@decide_eq_true_eq,@decide_eq_false_iff_not,@Option.map_some.{0,0},@decide_true,@decide_false,@aDX,@Nat.mul_one,@Nat.one_mul,@List.drop_zero.{0},@List.all_cons.{0},@List.all_nil.{0},@Bool.and_self,@Bool.and_true,@Bool.true_and⟩
theorem WK2:type_of% (AI @Bool.false_and (AI @Bool.and_false (AI @List.zip_cons_cons.{0,0} (AI @List.zip_nil_left.{0,0} (AI @List.flatten_cons.{0} (AI @List.flatten_nil.{0} (AI @List.take_zero.{0} (AI @List.take_nil.{0} (AI @List.drop_nil.{0} (AI @Bool.or_self (AI @Bool.or_false (AI @Nat.not_lt_zero (AI @and_self (AI @and_true (AI @true_and (AI @Bool.or_true (AI @Bool.true_or (AI @List.drop_succ_cons.{0} (AI @List.take_succ_cons.{0} (AI @Nat.lt_irrefl (AI @List.head?_cons.{0} (AI @List.contains_cons.{0} (AI @List.contains_nil.{0} @qM))))))))))))))))))))))) :=
 ⟨@Bool.false_and,@Bool.and_false,@List.zip_cons_cons.{0,0},@List.zip_nil_left.{0,0},@List.flatten_cons.{0},@List.flatten_nil.{0},@List.take_zero.{0},@List.take_nil.{0},@List.drop_nil.{0},@Bool.or_self,@Bool.or_false,@Nat.not_lt_zero,@and_self,@and_true,@true_and,@Bool.or_true,@Bool.true_or,@List.drop_succ_cons.{0},@List.take_succ_cons.{0},@Nat.lt_irrefl,@List.head?_cons.{0},@List.contains_cons.{0},@List.contains_nil.{0},@qM⟩
theorem WK3:type_of% (AI @rng0 (AI @rng1 (AI @rng2 (AI @Option.isNone_none.{0} (AI @Option.isNone_some.{0} (AI @Option.isSome_none.{0} (AI @Option.isSome_some.{0} (AI @uG (AI @nK (AI @beq_self_eq_true.{0} (AI @Nat.succ_ne_self (AI @Nat.zero_ne_one (AI @List.length_append.{0} (AI @or_false @or_true)))))))))))))) :=
 ⟨@rng0,@rng1,@rng2,@Option.isNone_none.{0},@Option.isNone_some.{0},@Option.isSome_none.{0},@Option.isSome_some.{0},@uG,@nK,@beq_self_eq_true.{0},@Nat.succ_ne_self,@Nat.zero_ne_one,@List.length_append.{0},@or_false,@or_true⟩
theorem WK:type_of% (AI @WK0 (AI @WK1 (AI @WK2 @WK3))) :=
 ⟨@WK0,@WK1,@WK2,@WK3⟩
section
variable {E:Env} {vs:List A} {t u:TypeId} {x y:Operand}
theorem R8:iU E (.convert t u x) vs = (cZ E.P u).isNone:=rfl
theorem LF {a:Array Operand} {b:Array TypeId}:iU E (.call ⟨.builtin .append,a,b⟩) vs = false:=rfl
theorem NU:iU E (.alloc t) vs = false:=rfl
theorem LO:iU E (.assign x) vs = false:=rfl
theorem OL:iU E (.store t x y) vs = false:=rfl
theorem aCf {n:Nat} {ps:Array (Nat × Operand)}:iU E (.buildSlice t n ps) vs = false:=rfl
theorem ZO:opds (.alloc t) = []:=rfl
end
theorem UNx5:type_of% (fun v0 v1 v2 v3 => @outA.eq_2 v0 v1 v2 (A.d v3) (by nofun)):=by intros; rfl
theorem UNx6:type_of% (fun v0 v1 v2 v3 v4 v5 v6 => @outA.eq_2 v0 v1 v2 (A.sl v3 v4 v5 v6) (by nofun)):=by intros; rfl
theorem UNx7:type_of% (fun v0 v1 v2 v3 v4 v5 => @outA.eq_2 v0 v1 v2 (A.ptr v3 v4 v5) (by nofun)):=by intros; rfl
theorem UNx9:type_of% (fun v0 v1 v2 v3 v4 => @outA.eq_2 v0 v1 v2 (A.clo v3 v4) (by nofun)):=by intros; rfl
theorem aLQ:type_of% (fun v0 v1 v2 v3 v4 => @outS.eq_2 v0 v1 v2 (D.int v3 v4) (by nofun)):=by intros; rfl
theorem aLW:type_of% (fun v0 v1 v2 v3 => @outS.eq_2 v0 v1 v2 (D.bool v3) (by nofun)):=by intros; rfl
theorem aLX:type_of% (fun v0 v1 v2 v3 => @outS.eq_2 v0 v1 v2 (D.str v3) (by nofun)):=by intros; rfl
theorem aLO:type_of% (fun v0 v1 v2 v3 v4 => @outS.eq_2 v0 v1 v2 (D.ivs v3 v4) (by nofun)):=by intros; rfl
theorem aL5:type_of% (fun v0 v1 => @fU.eq_3 (A.d (D.int v0 v1)) (by nofun) (by nofun)):=by intros; rfl
theorem aLF:type_of% (fun v0 => @fU.eq_3 (A.d (D.bool v0)) (by nofun) (by nofun)):=by intros; rfl
theorem aL1:type_of% (fun v0 => @fU.eq_3 (A.d (D.str v0)) (by nofun) (by nofun)):=by intros; rfl
theorem aL4:type_of% (fun v0 v1 => @fU.eq_3 (A.d (D.ivs v0 v1)) (by nofun) (by nofun)):=by intros; rfl
theorem aLG:type_of% (@fU.eq_3 (A.d D.nils) (by nofun) (by nofun)):=(@fU.eq_3 (A.d D.nils) (by nofun) (by nofun))
theorem aLP:type_of% (fun v0 v1 => @fU.eq_3 (A.d (D.fn v0 v1)) (by nofun) (by nofun)):=by intros; rfl
theorem aLE:type_of% (fun v0 v1 v2 v3 => @fU.eq_3 (A.sl v0 v1 v2 v3) (by nofun) (by nofun)):=by intros; rfl
theorem aL2:type_of% (fun v0 v1 v2 => @fU.eq_3 (A.ptr v0 v1 v2) (by nofun) (by nofun)):=by intros; rfl
theorem aLZ:type_of% (fun v0 => @fU.eq_3 (A.mp v0) (by nofun) (by nofun)):=by intros; rfl
theorem aLN:type_of% (fun v0 v1 => @fU.eq_3 (A.clo v0 v1) (by nofun) (by nofun)):=by intros; rfl
theorem aLI:type_of% (fun v0 => @tidy.eq_3 List.nil v0 (by nofun) (by nofun)):=by intros; rfl
theorem aLR:type_of% (fun v0 v1 v2 v3 v4 => @cD.eq_2 v0 v1 v2 v3 (A.d v4) (by nofun)):=by intros; rfl
theorem aL6:type_of% (fun v0 v1 v2 v3 v4 v5 v6 v7 => @cD.eq_2 v0 v1 v2 v3 (A.sl v4 v5 v6 v7) (by nofun)):=by intros; rfl
theorem aLM:type_of% (fun v0 v1 => @QP.eq_2 v0 (A.d v1) (by nofun)):=by intros; rfl
theorem aLL:type_of% (fun v0 v1 v2 => @frz.eq_5 v0 (A.d v2) v1 (by nofun) (by nofun) (by nofun)):=by intros; rfl
theorem aLV:type_of% (fun v0 => @aX.eq_2 (A.d v0) (by nofun)):=by intros; rfl
theorem aLY:type_of% (fun v0 v1 v2 v3 => @aX.eq_2 (A.sl v0 v1 v2 v3) (by nofun)):=by intros; rfl
theorem aLT:type_of% (fun v0 => @aX.eq_2 (A.mp v0) (by nofun)):=by intros; rfl
theorem aII:type_of% (fun v0 v1 => @dX.eq_5 (A.d (D.int v0 v1)) (by nofun) (by nofun) (by nofun) (by nofun)):=by intros; rfl
theorem aI1:type_of% (fun v0 => @dX.eq_5 (A.d (D.bool v0)) (by nofun) (by nofun) (by nofun) (by nofun)):=by intros; rfl
theorem aJr:type_of% (fun v0 => @dX.eq_5 (A.d (D.str v0)) (by nofun) (by nofun) (by nofun) (by nofun)):=by intros; rfl
theorem aI6:type_of% (fun v0 v1 => @dX.eq_5 (A.d (D.ivs v0 v1)) (by nofun) (by nofun) (by nofun) (by nofun)):=by intros; rfl
theorem aIn:type_of% (@dX.eq_5 (A.d D.nils) (by nofun) (by nofun) (by nofun) (by nofun)):=(@dX.eq_5 (A.d D.nils) (by nofun) (by nofun) (by nofun) (by nofun))
theorem aKb:type_of% (fun v0 v1 => @dX.eq_5 (A.d (D.fn v0 v1)) (by nofun) (by nofun) (by nofun) (by nofun)):=by intros; rfl
theorem aIs:type_of% (fun v0 v1 v2 v3 => @dX.eq_5 (A.sl v0 v1 v2 v3) (by nofun) (by nofun) (by nofun) (by nofun)):=by intros; rfl
theorem aJt:type_of% (fun v0 => @dX.eq_5 (A.mp v0) (by nofun) (by nofun) (by nofun) (by nofun)):=by intros; rfl
theorem aIz:type_of% (fun v0 => @t6.eq_2 (A.d v0) (by nofun)):=by intros; rfl
theorem aIX:type_of% (fun v0 v1 v2 v3 => @t6.eq_2 (A.sl v0 v1 v2 v3) (by nofun)):=by intros; rfl
theorem aIC:type_of% (fun v0 => @t6.eq_2 (A.agg v0) (by nofun)):=by intros; rfl
theorem aJL:type_of% (fun v0 v1 v2 v3 => @eE.eq_4 (O.arr v1 v2 v3) v0 (by nofun) (by nofun)):=by intros; rfl
theorem aJn:type_of% (fun v0 v1 => @eE.eq_4 (O.mp v1) v0 (by nofun) (by nofun)):=by intros; rfl
theorem aJT:type_of% (@tupA.eq_2 List.nil (by nofun)):=(@tupA.eq_2 List.nil (by nofun))
theorem aJU:type_of% (fun v0 v1 v2 => @tupA.eq_2 (List.cons v0 (List.cons v1 v2)) (by nofun)):=by intros; rfl
theorem aIS:type_of% (fun v0 v1 v2 v3 v4 => @DS.eq_2 v0 v1 (Go.Operand.tmp v4) v2 v3 (by nofun)):=by intros; rfl
theorem aJb:type_of% (fun v0 v1 v2 v3 => @a8.eq_3 v0 (A.d (D.int v2 v3)) v1 (by nofun)):=by intros; rfl
theorem aJj:type_of% (fun v0 v1 v2 v3 => @a8.eq_3 v0 (A.d (D.ivs v2 v3)) v1 (by nofun)):=by intros; rfl
theorem aI8:type_of% (fun v0 v1 v2 v3 => @a8.eq_3 v0 (A.d (D.fn v2 v3)) v1 (by nofun)):=by intros; rfl
theorem aIV:type_of% (fun v0 v1 v2 v3 v4 v5 => @a8.eq_3 v0 (A.sl v2 v3 v4 v5) v1 (by nofun)):=by intros; rfl
theorem aJI:type_of% (fun v0 v1 v2 => @a8.eq_3 v0 (A.mp v2) v1 (by nofun)):=by intros; rfl
theorem aJs:type_of% (fun v0 v1 v2 v3 => @mapO.eq_3 v0 (O.arr v1 v2 v3) (by nofun) (by nofun)):=by intros; rfl
theorem aKh:type_of% (fun v0 v1 v2 v3 => @mapO.eq_3 v0 (O.ice v1 v2 v3) (by nofun) (by nofun)):=by intros; rfl
theorem aJc:type_of% (fun v0 v1 => @mapO.eq_3 v0 (O.log v1) (by nofun) (by nofun)):=by intros; rfl
theorem aIt:type_of% (fun v0 v1 => @mapO.eq_3 v0 (O.mp v1) (by nofun) (by nofun)):=by intros; rfl
theorem aJy:type_of% (fun v0 v1 => @frzA.eq_2 v0 (A.d v1) (by nofun)):=by intros; rfl
theorem aJQ:type_of% (fun v0 v1 v2 v3 v4 => @frzA.eq_2 v0 (A.sl v1 v2 v3 v4) (by nofun)):=by intros; rfl
theorem aIY:type_of% (fun v0 v1 v2 => @frzA.eq_2 v0 (A.clo v1 v2) (by nofun)):=by intros; rfl
theorem UN0:type_of% (AI @ZO (AI @aLen.eq_def (AI @LF (AI @R8 (AI @NU (AI @LO (AI @OL (AI @aCf (AI @List.range'.eq_1 (AI @List.range'.eq_2 (AI @C9.eq_1 @IM.eq_1))))))))))) :=
 ⟨@ZO,@aLen.eq_def,@LF,@R8,@NU,@LO,@OL,@aCf,@List.range'.eq_1,@List.range'.eq_2,@C9.eq_1,@IM.eq_1⟩
theorem UN1:type_of% (AI @aPut.eq_1 (AI @aPut.eq_2 (AI @kI.eq_1 (AI @kI.eq_2 (AI @outA.eq_1 (AI @UNx5 (AI @UNx6 (AI @UNx7 (AI @UNx9 (AI @outS.eq_1 (AI @aLQ (AI @aLW (AI @aLX (AI @aLO (AI @outS.eq_3 (AI @outS.eq_4 (AI @outS.eq_6 (AI @yC.eq_1 (AI @yC.eq_2 (AI @idsA.eq_1 @idsA.eq_2)))))))))))))))))))) :=
 ⟨@aPut.eq_1,@aPut.eq_2,@kI.eq_1,@kI.eq_2,@outA.eq_1,@UNx5,@UNx6,@UNx7,@UNx9,@outS.eq_1,@aLQ,@aLW,@aLX,@aLO,@outS.eq_3,@outS.eq_4,@outS.eq_6,@yC.eq_1,@yC.eq_2,@idsA.eq_1,@idsA.eq_2⟩
theorem UN2:type_of% (AI @idsA.eq_3 (AI @idsA.eq_4 (AI @idsA.eq_5 (AI @idsA.eq_7 (AI @idsA.eq_8 (AI @idsL.eq_1 (AI @idsL.eq_2 (AI @mapA.eq_1 (AI @mapA.eq_2 (AI @mapA.eq_3 (AI @mapA.eq_4 (AI @mapA.eq_5 (AI @mapA.eq_7 (AI @mapA.eq_8 (AI @aU.eq_1 (AI @aU.eq_2 (AI @bM.eq_1 (AI @bM.eq_2 (AI @bM.eq_3 (AI @bM.eq_4 (AI @bM.eq_5 (AI @bM.eq_7 (AI @bM.eq_8 (AI @gI.eq_1 (AI @CI.eq_1 (AI @a6.eq_1 (AI @cF.eq_1 (AI @dU.eq_1 (AI @dU.eq_2 (AI @bW.eq_1 (AI @bW.eq_2 (AI @bW.eq_3 (AI @bW.eq_4 (AI @bW.eq_5 (AI @bW.eq_6 @aE.eq_1))))))))))))))))))))))))))))))))))) :=
 ⟨@idsA.eq_3,@idsA.eq_4,@idsA.eq_5,@idsA.eq_7,@idsA.eq_8,@idsL.eq_1,@idsL.eq_2,@mapA.eq_1,@mapA.eq_2,@mapA.eq_3,@mapA.eq_4,@mapA.eq_5,@mapA.eq_7,@mapA.eq_8,@aU.eq_1,@aU.eq_2,@bM.eq_1,@bM.eq_2,@bM.eq_3,@bM.eq_4,@bM.eq_5,@bM.eq_7,@bM.eq_8,@gI.eq_1,@CI.eq_1,@a6.eq_1,@cF.eq_1,@dU.eq_1,@dU.eq_2,@bW.eq_1,@bW.eq_2,@bW.eq_3,@bW.eq_4,@bW.eq_5,@bW.eq_6,@aE.eq_1⟩
theorem UN3:type_of% (AI @aE.eq_2 (AI @oT.eq_1 (AI @oT.eq_2 (AI @oT.eq_3 (AI @fU.eq_1 (AI @fU.eq_2 (AI @aL5 (AI @aLF (AI @aL1 (AI @aL4 (AI @aLG (AI @aLP (AI @aLE (AI @aL2 (AI @aLZ (AI @aLN (AI @tidy.eq_1 (AI @tidy.eq_2 (AI @aLI (AI @cD.eq_1 (AI @aLR (AI @aL6 (AI @cD.eq_3 @n9.eq_1))))))))))))))))))))))) :=
 ⟨@aE.eq_2,@oT.eq_1,@oT.eq_2,@oT.eq_3,@fU.eq_1,@fU.eq_2,@aL5,@aLF,@aL1,@aL4,@aLG,@aLP,@aLE,@aL2,@aLZ,@aLN,@tidy.eq_1,@tidy.eq_2,@aLI,@cD.eq_1,@aLR,@aL6,@cD.eq_3,@n9.eq_1⟩
theorem UN4:type_of% (AI @lE.eq_1 (AI @mV.eq_1 (AI @BD.eq_1 (AI @QP.eq_1 (AI @aLM (AI @C4.eq_1 (AI @oB.eq_1 (AI @keeps.eq_1 (AI @logs.eq_1 (AI @GF.eq_1 @pV.eq_1)))))))))) :=
 ⟨@lE.eq_1,@mV.eq_1,@BD.eq_1,@QP.eq_1,@aLM,@C4.eq_1,@oB.eq_1,@keeps.eq_1,@logs.eq_1,@GF.eq_1,@pV.eq_1⟩
theorem UN5:type_of% (AI @c7.eq_2 (AI @c7.eq_4 (AI @jR.eq_1 (AI @nL.eq_1 (AI @yK.eq_1 (AI @lN.eq_1 (AI @lN.eq_2 (AI @rG.eq_1 (AI @hM.eq_1 (AI @hZ.eq_1 (AI @hZ.eq_3 (AI @frzL.eq_1 (AI @eX.eq_1 (AI @eX.eq_2 (AI @frz.eq_2 (AI @frz.eq_3 (AI @frz.eq_4 (AI @aLL (AI @frz0.eq_1 (AI @frz0.eq_2 (AI @deep.eq_1 (AI @aX.eq_1 (AI @aLV (AI @aLY @aLT)))))))))))))))))))))))) :=
 ⟨@c7.eq_2,@c7.eq_4,@jR.eq_1,@nL.eq_1,@yK.eq_1,@lN.eq_1,@lN.eq_2,@rG.eq_1,@hM.eq_1,@hZ.eq_1,@hZ.eq_3,@frzL.eq_1,@eX.eq_1,@eX.eq_2,@frz.eq_2,@frz.eq_3,@frz.eq_4,@aLL,@frz0.eq_1,@frz0.eq_2,@deep.eq_1,@aX.eq_1,@aLV,@aLY,@aLT⟩
theorem UN6:type_of% (AI @bG.eq_1 (AI @aII (AI @aI1 (AI @aJr (AI @aI6 (AI @aIn (AI @aKb (AI @aIs (AI @aJt (AI @aIz (AI @aIX (AI @aIC (AI @eE.eq_1 (AI @eE.eq_2 (AI @aJL (AI @aJn @j7.eq_1)))))))))))))))) :=
 ⟨@bG.eq_1,@aII,@aI1,@aJr,@aI6,@aIn,@aKb,@aIs,@aJt,@aIz,@aIX,@aIC,@eE.eq_1,@eE.eq_2,@aJL,@aJn,@j7.eq_1⟩
theorem UN7:type_of% (AI @j7.eq_2 (AI @BO.eq_1 (AI @BO.eq_2 (AI @nC.eq_1 (AI @nC.eq_2 (AI @tupA.eq_1 (AI @aJT (AI @aJU (AI @qY.eq_1 (AI @rE.eq_1 (AI @rE.eq_2 (AI @opds.eq_2 (AI @opds.eq_7 (AI @opds.eq_13 (AI @opds.eq_14 @opds.eq_24))))))))))))))) :=
 ⟨@j7.eq_2,@BO.eq_1,@BO.eq_2,@nC.eq_1,@nC.eq_2,@tupA.eq_1,@aJT,@aJU,@qY.eq_1,@rE.eq_1,@rE.eq_2,@opds.eq_2,@opds.eq_7,@opds.eq_13,@opds.eq_14,@opds.eq_24⟩
theorem UN8:type_of% (AI @evOp.eq_1 (AI @dW.eq_1 (AI @one.eq_1 (AI @two.eq_1 (AI @xF.eq_1 @aIS))))) :=
 ⟨@evOp.eq_1,@dW.eq_1,@one.eq_1,@two.eq_1,@xF.eq_1,@aIS⟩
theorem UN9:type_of% (AI @aNew.eq_1 (AI @n4.eq_3 (AI @n4.eq_4 (AI @uE.eq_1 @HX.eq_1)))) :=
 ⟨@aNew.eq_1,@n4.eq_3,@n4.eq_4,@uE.eq_1,@HX.eq_1⟩
theorem UN10:type_of% (AI @back.eq_1 (AI @bJ.eq_1 (AI @bJ.eq_2 (AI @aG.eq_1 (AI @closed.eq_1 (AI @iY.eq_1 @a8.eq_1)))))) :=
 ⟨@back.eq_1,@bJ.eq_1,@bJ.eq_2,@aG.eq_1,@closed.eq_1,@iY.eq_1,@a8.eq_1⟩
theorem UN11:type_of% (AI @a8.eq_2 (AI @aJb (AI @aJj (AI @aI8 (AI @aIV (AI @aJI (AI @aI.eq_2 (AI @pack.eq_1 (AI @mapO.eq_1 (AI @mapO.eq_2 (AI @aJs (AI @aKh (AI @aJc (AI @aIt (AI @bK.eq_1 (AI @frzA.eq_1 (AI @aJy (AI @aJQ (AI @aIY @eJ.eq_1))))))))))))))))))) :=
 ⟨@a8.eq_2,@aJb,@aJj,@aI8,@aIV,@aJI,@aI.eq_2,@pack.eq_1,@mapO.eq_1,@mapO.eq_2,@aJs,@aKh,@aJc,@aIt,@bK.eq_1,@frzA.eq_1,@aJy,@aJQ,@aIY,@eJ.eq_1⟩
theorem UN12:type_of% (AI @eJ.eq_2 (AI @memD.eq_1 (AI @QM.eq_1 (AI @FV.eq_1 @eO.eq_3)))) :=
 ⟨@eJ.eq_2,@memD.eq_1,@QM.eq_1,@FV.eq_1,@eO.eq_3⟩
theorem UN:type_of% (AI @UN0 (AI @UN1 (AI @UN2 (AI @UN3 (AI @UN4 (AI @UN5 (AI @UN6 (AI @UN7 (AI @UN8 (AI @UN9 (AI @UN10 (AI @UN11 @UN12)))))))))))) :=
 ⟨@UN0,@UN1,@UN2,@UN3,@UN4,@UN5,@UN6,@UN7,@UN8,@UN9,@UN10,@UN11,@UN12⟩
theorem aLD:type_of% (@bS.eq_5 Go.Code.skip (by nofun) (by nofun) (by nofun) (by nofun)):=(@bS.eq_5 Go.Code.skip (by nofun) (by nofun) (by nofun) (by nofun))
theorem aLK:type_of% (fun v0 v1 v2 => @bS.eq_5 (Go.Code.region v0 v1 v2) (by nofun) (by nofun) (by nofun) (by nofun)):=(fun v0 v1 v2 => @bS.eq_5 (Go.Code.region v0 v1 v2) (by nofun) (by nofun) (by nofun) (by nofun))
theorem aLU:type_of% (fun v0 => @bS.eq_5 (Go.Code.exit v0) (by nofun) (by nofun) (by nofun) (by nofun)):=(fun v0 => @bS.eq_5 (Go.Code.exit v0) (by nofun) (by nofun) (by nofun) (by nofun))
theorem aJi:type_of% (@bS.eq_5 Go.Code.ret (by nofun) (by nofun) (by nofun) (by nofun)):=(@bS.eq_5 Go.Code.ret (by nofun) (by nofun) (by nofun) (by nofun))
theorem SLM0:type_of% (AI @Option.getD_some.{0} (AI @List.length_nil.{0} (AI @Nat.add_zero (AI @Nat.zero_add (AI @List.map_cons.{0,0} (AI @List.map_nil.{0,0} (AI @List.getElem?_cons_zero.{0} (AI @List.getElem?_cons_succ.{0} (AI @Option.bind_some.{0,0} (AI @Bool.false_eq_true (AI @List.length_cons.{0} (AI @List.replicate.eq_1.{0} (AI @List.replicate.eq_2.{0} (AI @List.cons_append.{0} (AI @List.nil_append.{0} (AI @List.append_nil.{0} (AI @List.getD_cons_zero.{0} (AI @List.getD_cons_succ.{0} (AI @aZ.eq_1 (AI @bD.eq_1 (AI @lpOf.eq_1 (AI @aS.eq_1 (AI @slim.eq_1 (AI @slim.eq_2 (AI @slim.eq_3 (AI @slim.eq_4 (AI @slim.eq_5 (AI @slim.eq_6 (AI @slim.eq_7 (AI @slim.eq_8 (AI @bS.eq_1 (AI @bS.eq_2 @bS.eq_3)))))))))))))))))))))))))))))))) :=
 ⟨@Option.getD_some.{0},@List.length_nil.{0},@Nat.add_zero,@Nat.zero_add,@List.map_cons.{0,0},@List.map_nil.{0,0},@List.getElem?_cons_zero.{0},@List.getElem?_cons_succ.{0},@Option.bind_some.{0,0},@Bool.false_eq_true,@List.length_cons.{0},@List.replicate.eq_1.{0},@List.replicate.eq_2.{0},@List.cons_append.{0},@List.nil_append.{0},@List.append_nil.{0},@List.getD_cons_zero.{0},@List.getD_cons_succ.{0},@aZ.eq_1,@bD.eq_1,@lpOf.eq_1,@aS.eq_1,@slim.eq_1,@slim.eq_2,@slim.eq_3,@slim.eq_4,@slim.eq_5,@slim.eq_6,@slim.eq_7,@slim.eq_8,@bS.eq_1,@bS.eq_2,@bS.eq_3⟩
theorem SLM1:type_of% (AI @bS.eq_4 (AI @aLD (AI @aLK (AI @aLU (AI @aJi (AI @A9.eq_1 (AI @FK.eq_1 @FK.eq_2))))))) :=
 ⟨@bS.eq_4,@aLD,@aLK,@aLU,@aJi,@A9.eq_1,@FK.eq_1,@FK.eq_2⟩
theorem SLM:type_of% (AI @SLM0 @SLM1) :=
 ⟨@SLM0,@SLM1⟩
theorem LN:type_of% (AI @List.length_append.{0} (AI @List.length_cons.{0} (AI @List.length_nil.{0} (AI @List.length_set.{0} (AI @List.length_replicate.{0} (AI @List.length_map.{0,0} (AI @List.length_take.{0} @List.length_drop.{0}))))))) :=
 ⟨@List.length_append.{0},@List.length_cons.{0},@List.length_nil.{0},@List.length_set.{0},@List.length_replicate.{0},@List.length_map.{0,0},@List.length_take.{0},@List.length_drop.{0}⟩
theorem GT:type_of% (AI @List.getElem?_cons_zero.{0} @List.getElem?_cons_succ.{0}) :=
 ⟨@List.getElem?_cons_zero.{0},@List.getElem?_cons_succ.{0}⟩
end Ev
end Go.Proofs.YtejmccgfigiadaaGreat
