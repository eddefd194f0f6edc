/-
  How each operation goes, in the form in which the evaluator is walked.
-/
import Derived.Test.YtejmccgfigiadaaGreatEvPrim
set_option linter.unusedSimpArgs false
set_option linter.unusedVariables false
namespace Go.Proofs.YtejmccgfigiadaaGreat
namespace Ev
section
variable {R:Type} {E:Env} {call:bE} {thaw:List Nat} {dst:Option Tmp} {s:List A} {h:H} {k:A → H → Option R}
structure Now (p:Prop):Prop where
 it:p
structure Shut (p:Prop):Prop where
 it:p
inductive Box (α:Type) where
 | mk (a:α)
 | no
def box {α:Type} (a:α):Box α:=.mk a
theorem aJg {α:Type} {a:α}:box a = .mk a:=rfl
theorem aIZ {t:Nat} {q:A → Option R}:kv s (.tmp t) q = match box (s.getD t (.d .undef)) with | .no => none | .mk a => q a:=rfl
theorem aIq {K:IntKind} {n:Int} {q:A → Option R}:kv s (.const (.int K n)) q = q (.d (.int K n)):=rfl
theorem aF8 {b:Bool} {q:A → Option R}:kv s (.const (.bool b)) q = q (.d (.bool b)):=rfl
theorem aH8 {b:ByteArray} {q:A → Option R}:kv s (.const (.string b)) q = match box b.data.toList with | .no => none | .mk l => q (.d (.str l)):=rfl
theorem aFP {q:A → Option R}:kv s (.const (.slice none 0 0)) q = q (.d .nils):=rfl
theorem aFH {f:FuncId} {q:A → Option R}:kv s (.func f) q = q (.clo f []):=rfl
theorem aFB {q:List A → Option R}:kvs s [] q = q []:=rfl
theorem aD1 {x:Operand} {xs:List Operand} {q:List A → Option R}:kvs s (x :: xs) q = kv s x fun a => kvs s xs fun as => q (a :: as):=by
 unfold kvs kv
 simp only [bI]
 cases bX s x with
 | none => rfl
 | some a => cases bI s xs <;> rfl
theorem QN {yes no:List A → Option R}:qE none s yes no = yes s:=rfl
theorem Q3 {t:Nat} {w:Bool} {yes no:List A → Option R}:qE (some (some t,w)) s yes no = match s.getD t .junk with
  | .d (.bool b) => if b = w then (match box (s.set t (.d (.bool w))) with | .no => none | .mk s => yes s) else (match box (s.set t (.d (.bool (!w)))) with | .no => none | .mk s => no s)
  | .d .undef => no s
  | _ => none:=by
 simp only [qE,List.getD_eq_getElem?_getD]
 cases s[t]? with
 | none => rfl
 | some a =>
  cases a with
  | d x => cases x <;> rfl
  | _ => rfl
theorem aCz {x:Operand}:kOp E call thaw dst (.move x) s h k = kv s x fun a => k a h:=by
 unfold kOp kvs kv
 simp only [opds,bI]
 cases bX s x <;> rfl
def kAsg (thaw:List Nat) (dst:Option Tmp) (h:H) (k:A → H → Option R) (a:A):Option R :=
 match a with
 | .d .nils => match A7 thaw dst with
  | 0 => k (.d .nils) h
  | e + 1 => if e < 1000 then k (.sl h.length 0 0 0) (h ++ [.arr [] e 0]) else k (.sl h.length 0 0 0) (h ++ [.vec [] (e - 1000) 0])
 | a => k a h
theorem G4 {t:Nat}:kOp E call thaw dst (.assign (.tmp t)) s h k = match box (s.getD t (.d .undef)) with | .no => none | .mk a => k a h:=by
 unfold kOp kvs
 simp only [opds,bI,bX,qL,Bool.false_eq_true,if_false]
 rfl
theorem A0 {v:Value}:kOp E call thaw dst (.assign (.const v)) s h k = kv s (.const v) (kAsg thaw dst h k):=by
 unfold kOp kvs kv kAsg
 simp only [opds,bI]
 cases bX s (.const v) with
 | none => rfl
 | some a =>
  simp only [qL,Bool.false_eq_true,if_false,evOp,one,CK,fQ]
  cases a with
  | d x =>
   cases x with
   | nils => cases ht:A7 thaw dst with
    | zero => simp []
    | succ e => by_cases he:e < 1000 <;> simp [he]
   | _ => rfl
  | _ => rfl
def kRet (r:Option (A × H)) (k:A → H → Option R):Option R :=
 match r with
 | some (a,h') => k a h'
 | none => none
theorem aFW {op:BinOp} {t:TypeId} {x y:Operand} {t2:TypeId}:kOp E call thaw dst (.binOp op t x y t2) s h k = kv s x fun a => kv s y fun b => kRet (bN E op t h a b) k:=by
 unfold kOp kvs kv kRet
 simp only [opds,bI]
 cases bX s x with
 | none => rfl
 | some a => cases bX s y <;> rfl
theorem aHP {op:UnOp} {t:TypeId} {x:Operand}:kOp E call thaw dst (.unOp op t x) s h k = kv s x fun a => kRet ((aUn op a).map fun r => (r,h)) k:=by
 unfold kOp kvs kv kRet
 simp only [opds,bI]
 cases bX s x <;> rfl
theorem aDJ {c x y:Operand}:kOp E call thaw dst (.pick c x y) s h k = kv s c fun b => kv s x fun a => kv s y fun a' => kRet (FU h [b,a,a']) k:=by
 unfold kOp kvs kv kRet
 simp only [opds,bI]
 cases bX s c with
 | none => rfl
 | some b => cases bX s x with
  | none => rfl
  | some a => cases bX s y <;> rfl
theorem aD9 {t u:TypeId} {x:Operand}:kOp E call thaw dst (.convert t u x) s h k = kv s x fun a => kRet (eD E.P h t u a) k:=by
 unfold kOp kvs kv kRet
 simp only [opds,bI]
 cases bX s x <;> rfl
theorem aEy {t:TypeId} {x:Operand}:kOp E call thaw dst (.load t x) s h k = kv s x fun a => kRet ((wO E.P h t a).map fun v => (v,h)) k:=by
 unfold kOp kvs kv kRet
 simp only [opds,bI]
 cases bX s x <;> rfl
theorem aAG {t:TypeId} {x y:Operand}:kOp E call thaw dst (.store t x y) s h k = kv s x fun a => kv s y fun b => kRet ((gT E.P h t a b).map fun h' => (.d .undef,h')) k:=by
 unfold kOp kvs kv kRet
 simp only [opds,bI]
 cases bX s x with
 | none => rfl
 | some a => cases bX s y <;> rfl
theorem aBc {t:TypeId}:kOp E call thaw dst (.alloc t) s h k = match box (cX E.P t) with
  | .no => none
  | .mk none => none
  | .mk (some z) => kRet (aNew h z) k:=by
 unfold kOp kvs kRet
 simp only [opds,bI,qL,Bool.false_eq_true,if_false,evOp,fQ,box]
 cases cX E.P t <;> rfl
theorem aFG {t:TypeId} {x:Operand}:kOp E call thaw dst (.box t x) s h k = kv s x fun a => kRet (aNew h a) k:=by
 unfold kOp kvs kv kRet
 simp only [opds,bI]
 cases bX s x <;> rfl
theorem aBN {t:TypeId} {ps:List (Nat × Operand)}:kOp E call thaw dst (.build t ps.toArray) s h k = match box (ps.map (·.2)) with
  | .no => none
  | .mk xs => kvs s xs fun vs => kRet ((sY E.P t ((ps.map (·.1)).zip vs)).map fun a => (a,h)) k:=by
 unfold kOp kRet
 rfl
theorem F1 {t:TypeId} {n:Nat} {ps:List (Nat × Operand)}:kOp E call thaw dst (.buildSlice t n ps.toArray) s h k = match box (ps.map (·.2)) with
  | .no => none
  | .mk xs => kvs s xs fun vs => kRet (if logs thaw dst = true then ED (iG E.P h t n ((ps.map (·.1)).zip vs)) else if keeps thaw dst = true then DX E.P h t n ((ps.map (·.1)).zip vs) else iG E.P h t n ((ps.map (·.1)).zip vs)) k:=by
 unfold kOp kRet
 rfl
theorem MM {fn:Fn} {cap:List Operand}:kOp E call thaw dst (.makeFunc fn #[] cap.toArray) s h k = kvs s cap fun vs => kRet (GF h fn true vs) k:=by
 unfold kOp kRet
 rfl
theorem KW {t:TypeId} {x y:Operand}:kOp E call thaw dst (.makeSlice t x y) s h k = kv s x fun a => kv s y fun b => kRet (fU a fun l => fU b fun c => if keeps thaw dst = true then r7 E.P h t l c else d8 E.P h t l c) k:=by
 unfold kOp kvs kv kRet
 simp only [opds,bI]
 cases bX s x with
 | none => rfl
 | some a => cases bX s y <;> rfl
theorem Q6 {t:TypeId} {x lo hi:Operand}:kOp E call thaw dst (.slice t x (some lo) (some hi) none) s h k = kvs s [x,lo,hi] fun vs => kRet (vG E.P h t true true vs) k:=rfl
theorem J4 {t:TypeId} {x:Operand} {f:Nat}:kOp E call thaw dst (.fieldAddr t x f) s h k = kv s x fun a => kRet ((b7 E.P t f).bind fun r => (pE r.1 a).map fun r => (r,h)) k:=by
 unfold kOp kvs kv kRet
 simp only [opds,bI]
 cases bX s x <;> rfl
theorem JW {t:TypeId} {x y:Operand}:kOp E call thaw dst (.indexAddr t x y) s h k = kv s x fun a => kv s y fun b => kRet (fU b fun i => (lN E.P h t a i).map fun r => (r,h)) k:=by
 unfold kOp kvs kv kRet
 simp only [opds,bI]
 cases bX s x with
 | none => rfl
 | some a => cases bX s y <;> rfl
theorem aAq {t:TypeId} {x y:Operand}:kOp E call thaw dst (.index t x y) s h k = kv s x fun a => kv s y fun b => kRet (fU b fun i => (HG E.P t a i).map fun r => (r,h)) k:=by
 unfold kOp kvs kv kRet
 simp only [opds,bI]
 cases bX s x with
 | none => rfl
 | some a => cases bX s y <;> rfl
theorem QK {t:TypeId}:kOp E call thaw dst (.makeMap t none) s h k = k (.mp h.length) (h ++ [.mp []]):=rfl
theorem KR {t:TypeId} {x y z:Operand}:kOp E call thaw dst (.mapUpdate t x y z) s h k = kv s x fun a => kv s y fun b => kv s z fun c => kRet (lO E.P h t a b c) k:=by
 unfold kOp kvs kv kRet
 simp only [opds,bI]
 cases bX s x with
 | none => rfl
 | some a => cases bX s y with
  | none => rfl
  | some b => cases bX s z <;> rfl
theorem Q5 {x:Operand} {i:Nat}:kOp E call thaw dst (.extract x i) s h k = kv s x fun a => kRet (sT h i a) k:=by
 unfold kOp kvs kv kRet
 simp only [opds,bI]
 cases bX s x <;> rfl
theorem RL {b:Builtin} {args:List Operand} {tys:List TypeId}:kOp E call thaw dst (.call ⟨.builtin b,args.toArray,tys.toArray⟩) s h k = kvs s args fun vs => kRet (bW E.P h b tys vs) k:=by
 unfold kOp kRet
 rfl
theorem fW {op:Op} {q:A → H → Foot → Option R} (hp:Now (mL op = true ∧ qL op = false)):kOpD E call thaw dst op s h q = kOp E call thaw dst op s h fun a _ => q a h {}:=by
 obtain ⟨hp,hc⟩:=hp.it
 unfold kOpD kOp kvs
 rw [hp,hc]
 cases bI s (opds op) with
 | none => rfl
 | some vs =>
  simp only [if_true,Bool.false_eq_true,if_false]
def memD (E:Env) (call:bE) (thaw:List Nat) (dst:Option Tmp) (op:Op) (h:H) (vs:List A):Option (A × H × Foot):=match box (aD aG h (idsL vs) []) with
 | .no => none
 | .mk ord => match box (evOp E call thaw (pack h ord) (fQ dst op) (aM (aJ ord) vs)) with
  | .mk (some (a,h1)) => if ord.length ≤ h1.length ∧ closed h ord (idsL vs) = true then
    (if (hM E op vs && h1.length - ord.length == 0) = true then some (mapA (back ord h.length h1.length) a,h,{ ids:=ord,ro:=true })
    else some (mapA (back ord h.length h1.length) a,bG (back ord h.length h1.length) h ord h1,{ ids:=ord ++ List.range' h.length (h1.length - ord.length),ro:=false,wr:=wrOf E op vs ord ++ List.range' h.length (h1.length - ord.length) }))
   else none
  | _ => none
theorem j2 {op:Op} {q:A → H → Foot → Option R} (hp:Now (mL op = false ∧ mN op = false)):kOpD E call thaw dst op s h q = match box (opds op) with | .no => none | .mk xs => kvs s xs fun vs => match box (memD E call thaw dst op h vs) with
  | .mk (some (a,h',c)) => q a h' c
  | _ => none:=by
 simp only [box]
 unfold kOpD kvs
 rw [hp.it.1,hp.it.2]
 cases bI s (opds op) with
 | none => rfl
 | some vs =>
  simp only [Bool.false_eq_true,if_false,iW,memD,box]
  cases evOp E call thaw (pack h (aD aG h (idsL vs) [])) (fQ dst op) (aM (aJ (aD aG h (idsL vs) [])) vs) with
  | none => rfl
  | some r =>
   obtain ⟨a,h1⟩:=r
   by_cases hc:(aD aG h (idsL vs) []).length ≤ h1.length ∧ closed h (aD aG h (idsL vs) []) (idsL vs) = true
   ·simp only [if_pos hc]
    by_cases hr:(hM E op vs && h1.length - (aD aG h (idsL vs) []).length == 0) = true
    ·simp only [if_pos hr]
    ·simp only [if_neg hr]
   ·simp only [if_neg hc]
theorem OH {op:Op} {q:A → H → Foot → Option R} (hp:Now (mL op = false ∧ mN op = true ∧ qL op = false)):kOpD E call thaw dst op s h q = kvs s (opds op) fun vs => kOp E call thaw dst op s h fun a _ => q a h { ids:=ids0 vs,ro:=true }:=by
 unfold kOpD kOp kvs
 rw [hp.it.1,hp.it.2.1,hp.it.2.2]
 cases bI s (opds op) with
 | none => rfl
 | some vs => simp only [Bool.false_eq_true,if_false,if_true]
theorem TB {x:Operand} {xs:List Operand} {op:Op} {q:A → H → Foot → Option R} (hx:opds op = x :: xs):(kvs s (opds op) fun vs => kOp E call thaw dst op s h fun a _ => q a h { ids:=ids0 vs,ro:=true }) = kv s x fun b => kOp E call thaw dst op s h fun a _ => q a h { ids:=idsA b,ro:=true }:=by
 unfold kOp kv
 rw [hx]
 unfold kvs
 simp only [bI]
 cases bX s x with
 | none => rfl
 | some b =>
  cases bI s xs with
  | none => rfl
  | some bs => rfl
theorem aAm {t:TypeId} {x:Operand} {q:A → H → Foot → Option R}:kOpD E call thaw dst (.load t x) s h q = kv s x fun b => kOp E call thaw dst (.load t x) s h fun a _ => q a h { ids:=idsA b,ro:=true }:=(OH ⟨rfl,rfl,rfl⟩).trans (TB rfl)
theorem YD {t:TypeId} {x y:Operand} {q:A → H → Foot → Option R}:type_of% (j2 (E:=E) (call:=call) (thaw:=thaw) (dst:=dst) (s:=s) (h:=h) (op:=.store t x y) (q:=q) ⟨rfl,rfl⟩):=j2 ⟨rfl,rfl⟩
theorem QX {x:Operand} {q:A → H → Foot → Option R}:type_of% (j2 (E:=E) (call:=call) (thaw:=thaw) (dst:=dst) (s:=s) (h:=h) (op:=.assign x) (q:=q) ⟨rfl,rfl⟩):=j2 ⟨rfl,rfl⟩
theorem VK {t:TypeId} {q:A → H → Foot → Option R}:type_of% (j2 (E:=E) (call:=call) (thaw:=thaw) (dst:=dst) (s:=s) (h:=h) (op:=.alloc t) (q:=q) ⟨rfl,rfl⟩):=j2 ⟨rfl,rfl⟩
theorem DU {t:TypeId} {n:Nat} {ps:List (Nat × Operand)} {q:A → H → Foot → Option R}:type_of% (j2 (E:=E) (call:=call) (thaw:=thaw) (dst:=dst) (s:=s) (h:=h) (op:=.buildSlice t n ps.toArray) (q:=q) ⟨rfl,rfl⟩):=j2 ⟨rfl,rfl⟩
theorem G2 {t:TypeId} {x y:Operand} {q:A → H → Foot → Option R}:kOpD E call thaw dst (.indexAddr t x y) s h q = kv s x fun b => kOp E call thaw dst (.indexAddr t x y) s h fun a _ => q a h { ids:=idsA b,ro:=true }:=(OH ⟨rfl,rfl,rfl⟩).trans (TB rfl)
theorem RH {args tys:Array _} {q:A → H → Foot → Option R}:type_of% (j2 (E:=E) (call:=call) (thaw:=thaw) (dst:=dst) (s:=s) (h:=h) (op:=.call ⟨.builtin .append,args,tys⟩) (q:=q) ⟨rfl,rfl⟩):=j2 ⟨rfl,rfl⟩
theorem aCF {x:Operand} {xs:List Operand} {tys:Array _} {q:A → H → Foot → Option R}:kOpD E call thaw dst (.call ⟨.builtin .len,(x :: xs).toArray,tys⟩) s h q = kv s x fun b => kOp E call thaw dst (.call ⟨.builtin .len,(x :: xs).toArray,tys⟩) s h fun a _ => q a h { ids:=idsA b,ro:=true }:=(OH ⟨rfl,rfl,rfl⟩).trans (TB rfl)
theorem aAA {x:Operand} {q:A → H → Foot → Option R}:type_of% (fW (E:=E) (call:=call) (thaw:=thaw) (dst:=dst) (s:=s) (h:=h) (op:=.move x) (q:=q) ⟨rfl,rfl⟩):=fW ⟨rfl,rfl⟩
theorem aDm {op:BinOp} {t:TypeId} {x y:Operand} {t2:TypeId} {q:A → H → Foot → Option R}:type_of% (fW (E:=E) (call:=call) (thaw:=thaw) (dst:=dst) (s:=s) (h:=h) (op:=.binOp op t x y t2) (q:=q) ⟨rfl,rfl⟩):=fW ⟨rfl,rfl⟩
theorem aF2 {op:UnOp} {t:TypeId} {x:Operand} {q:A → H → Foot → Option R}:type_of% (fW (E:=E) (call:=call) (thaw:=thaw) (dst:=dst) (s:=s) (h:=h) (op:=.unOp op t x) (q:=q) ⟨rfl,rfl⟩):=fW ⟨rfl,rfl⟩
theorem J5 {fn:Fn} {first cap:Array Operand} {q:A → H → Foot → Option R}:type_of% (fW (E:=E) (call:=call) (thaw:=thaw) (dst:=dst) (s:=s) (h:=h) (op:=.makeFunc fn first cap) (q:=q) ⟨rfl,rfl⟩):=fW ⟨rfl,rfl⟩
theorem FV {t:TypeId} {x:Operand} {f:Nat} {q:A → H → Foot → Option R}:type_of% (fW (E:=E) (call:=call) (thaw:=thaw) (dst:=dst) (s:=s) (h:=h) (op:=.fieldAddr t x f) (q:=q) ⟨rfl,rfl⟩):=fW ⟨rfl,rfl⟩
theorem MA {x:Operand} {i:Nat} {q:A → H → Foot → Option R}:type_of% (fW (E:=E) (call:=call) (thaw:=thaw) (dst:=dst) (s:=s) (h:=h) (op:=.extract x i) (q:=q) ⟨rfl,rfl⟩):=fW ⟨rfl,rfl⟩
def aEg (a b:Foot):Bool:=(!a.ro && (!b.ids.isEmpty && a.wr.any b.ids.contains)) || (!b.ro && (!a.ids.isEmpty && b.wr.any a.ids.contains))
theorem aAO (a b:Foot):aEg a b = dP a b:=by
 obtain ⟨ia,ra,wa⟩:=a
 obtain ⟨ib,rb,wb⟩:=b
 unfold aEg dP
 cases ia <;> cases ib <;> simp
def jH (ops:List Oper) (cs:List Foot):Bool :=
 let b:=tX ops []
 (List.range cs.length).all fun j => (List.range j).all fun i => (b.getD j 0).testBit i || !aEg (cs.getD i {}) (cs.getD j {})
theorem MR {src:List Oper} {cs:List Foot} (h:iH src cs = true):jH src cs = true:=by
 unfold jH
 simp only [aAO]
 exact h
theorem XN {src:List Oper} {cs:List Foot} {x:Option R} (hc:Shut (jH src cs = true)):(if iH src cs = true then x else none) = x:=if_pos (by
 have:=hc.it
 unfold jH at this
 simp only [aAO] at this
 exact this)
theorem aDZ {q:List A → H → Option R}:kOps E call thaw [] s h q = q s h:=rfl
theorem aBd {op:Op} {g:Option (Option Tmp × Bool)} {os:List SO} {q:List A → H → Option R}:kOps E call thaw (⟨dst,op,g⟩ :: os) s h q = qE g s
  (fun s => kOp E call thaw dst op s h fun a h' => match box (aPut s dst a) with | .no => none | .mk s' => kOps E call thaw os s' h' q)
  (fun s => match box (aPut s dst (.d .undef)) with | .no => none | .mk s' => kOps E call thaw os s' h q):=rfl
theorem aBS {cs:List Foot} {q:List A → H → List Foot → Option R}:rA E call thaw [] s h cs q = q s h cs:=rfl
theorem WC {op:Op} {g:Option (Option Tmp × Bool)} {os:List SO} {cs:List Foot} {q:List A → H → List Foot → Option R}:rA E call thaw (⟨dst,op,g⟩ :: os) s h cs q = qE g s
  (fun s => kOpD E call thaw dst op s h fun a h' c => match box (aPut s dst a) with | .no => none | .mk s' => rA E call thaw os s' h' (cs ++ [c]) q)
  (fun s => match box (aPut s dst (.d .undef)) with | .no => none | .mk s' => rA E call thaw os s' h (cs ++ [{}]) q):=rfl
section
variable {L nf:Nat} {live:List Bool} {lp:Nat → Code} {q:Exit → List A → H → Option R}
theorem UK:aC E call L nf thaw live lp .skip s h q = q .normal s h:=rfl
theorem aBn {l:List SO}:aC E call L nf thaw live lp (.ops l) s h q = kOps E call thaw l s h fun s h => q .normal s h:=rfl
theorem QJ {l:List SO} {src:Array Oper}:aC E call L nf thaw live lp (.drawn l src) s h q = rA E call thaw l s h [] fun s h cs => if iH src.toList cs = true then q .normal s h else none:=rfl
theorem aBP {a b:SC}:aC E call L nf thaw live lp (.seq a b) s h q = aC E call L nf thaw live lp a s h fun e s h => match e with
  | .normal => aC E call L nf thaw live lp b s h q
  | e => q e s h:=rfl
theorem V4 {c:Operand} {x y:SC}:aC E call L nf thaw live lp (.cond c x y) s h q = kv s c fun a => match a with
  | .d (.bool b) => if b = true then aC E call L nf thaw live lp x s h q else aC E call L nf thaw live lp y s h q
  | _ => none:=rfl
theorem Q4 {id:Nat} {c:SC}:aC E call L nf thaw live lp (.block id c) s h q = aC E call L nf thaw live lp c s h fun e s h => match e with
  | .exit i => if i = id then q .normal s h else q (.exit i) s h
  | e => q e s h:=rfl
theorem YC {i:Nat}:aC E call L nf thaw live lp (.loop i) s h q = match box (nM live s) with
  | .no => none
  | .mk m => match box (gc nf m s h) with
   | .mk (s',h') => aF E call L nf thaw live (lp i) m L s' h' q
   | .no => none:=rfl
theorem YA {id:Nat}:aC E call L nf thaw live lp (.exit id) s h q = q (.exit id) s h:=rfl
theorem aBG:aC E call L nf thaw live lp .ret s h q = q .ret s h:=rfl
theorem NI {c:Code} {m:List Bool} {n:Nat}:a6 E call L nf thaw live c m n q .normal s h = match box (gc nf m s h) with
  | .mk (s',h') => aF E call L nf thaw live c m n s' h' q
  | .no => none:=rfl
theorem WE {c:Code} {m:List Bool} {n i:Nat}:a6 E call L nf thaw live c m n q (.exit i) s h = match box (gc nf m s h) with
  | .mk (s',h') => q (.exit i) s' h'
  | .no => none:=rfl
theorem aBV {c:Code} {m:List Bool} {n:Nat}:a6 E call L nf thaw live c m n q .ret s h = match box (gc nf m s h) with
  | .mk (s',h') => q .ret s' h'
  | .no => none:=rfl
end
def aS (E:Env) (call:bE) (h:H) (f:FuncId) (args:List A) (k:A → H → Option R):Option R :=
 match cC call E.hint (pack h (aD aG h (idsL args) [])) f (aM (aJ (aD aG h (idsL args) [])) args) with
 | some (a,h1) =>
  if (aD aG h (idsL args) []).length ≤ h1.length ∧ closed h (aD aG h (idsL args) []) (idsL args) = true then
   k (mapA (back (aD aG h (idsL args) []) h.length h1.length) a) (bG (back (aD aG h (idsL args) []) h.length h1.length) h (aD aG h (idsL args) []) h1)
  else none
 | none => none
theorem aKf {f:FuncId} {args:List Operand} {tys:Array TypeId}:kOp E call thaw dst (.call ⟨.value (.func f),args.toArray,tys⟩) s h k = kvs s args fun vs => aS E call h f vs k:=by
 unfold kOp kvs aS
 simp only [opds,bI,bX]
 cases bI s args with
 | none => rfl
 | some vs =>
  simp only [qL,if_true,iW,idsL,idsA,List.nil_append,aM,mapA,evOp,g6,fS,fQ,List.append_nil]
  cases cC call E.hint (pack h (aD aG h (idsL vs) [])) f (aM (aJ (aD aG h (idsL vs) [])) vs) with
  | none => rfl
  | some r =>
   obtain ⟨a,h1⟩:=r
   by_cases c1:(aD aG h (idsL vs) []).length ≤ h1.length <;> by_cases c2:closed h (aD aG h (idsL vs) []) (idsL vs) = true <;> simp [c1,c2]
theorem aAI {f:FuncId} {args:List Operand} {tys:Array TypeId}:kOp E call thaw dst (.call ⟨.value (.func f),args.toArray,tys⟩) s h k = kvs s args fun vs => aS E call h f vs fun a h' => match box h' with | .no => none | .mk h'' => k a h'':=by
 rw [aKf]
 rfl
def BV (E:Env) (call:bE) (h:H) (f:FuncId) (caps args:List A) (k:A → H → Option R):Option R :=
 match cC call E.hint (pack h (aD aG h (idsL caps ++ idsL args) [])) f (aM (aJ (aD aG h (idsL caps ++ idsL args) [])) args ++ aM (aJ (aD aG h (idsL caps ++ idsL args) [])) caps) with
 | some (a,h1) =>
  if (aD aG h (idsL caps ++ idsL args) []).length ≤ h1.length ∧ closed h (aD aG h (idsL caps ++ idsL args) []) (idsL caps ++ idsL args) = true then
   k (mapA (back (aD aG h (idsL caps ++ idsL args) []) h.length h1.length) a) (bG (back (aD aG h (idsL caps ++ idsL args) []) h.length h1.length) h (aD aG h (idsL caps ++ idsL args) []) h1)
  else none
 | none => none
def kR (E:Env) (call:bE) (h:H) (g:A) (args:List A) (k:A → H → Option R):Option R :=
 match g with
 | .d (.fn f caps) => aS E call h f (args ++ caps.map .d) k
 | .clo f caps => BV E call h f caps args k
 | _ => none
theorem oF:∀ (as bs:List A),idsL (as ++ bs) = idsL as ++ idsL bs
 | [],bs => by simp [idsL]
 | a :: as,bs => by simp [idsL,oF as bs]
theorem aEE:∀ (ds:List D),idsL (ds.map .d) = []
 | [] => by simp [idsL]
 | d :: ds => by simp [idsL,idsA,aEE ds]
theorem xI {f:Nat → Option Nat}:∀ (as bs:List A),aM f (as ++ bs) = aM f as ++ aM f bs
 | [],bs => by simp [aM]
 | a :: as,bs => by simp [aM,xI as bs]
theorem Z9 {f:Nat → Option Nat}:∀ (ds:List D),aM f (ds.map .d) = ds.map .d
 | [] => by simp [aM]
 | d :: ds => by simp [aM,mapA,Z9 ds]
theorem aIt {g:A} {vs:List A} {tys:Array TypeId} {x:Operand} {args:Array Operand}:(match iW E call thaw h (fQ dst (.call ⟨.value x,args,tys⟩)) (g :: vs) with
   | some (a,h',_) => k a h'
   | none => none) = kR E call h g vs k:=by
 unfold iW
 simp only [evOp,g6,fQ,aM]
 cases g with
 | d y =>
  cases y with
  | fn f caps =>
   simp only [kR,aS,mapA,fS,idsL,idsA,List.nil_append,oF,aEE,List.append_nil,xI,Z9]
   cases cC call E.hint (pack h (aD aG h (idsL vs) [])) f (aM (aJ (aD aG h (idsL vs) [])) vs ++ caps.map .d) with
   | none => rfl
   | some r =>
    obtain ⟨a,h1⟩:=r
    by_cases c1:(aD aG h (idsL vs) []).length ≤ h1.length <;> by_cases c2:closed h (aD aG h (idsL vs) []) (idsL vs) = true <;> simp [c1,c2]
  | _ => simp only [kR,mapA,fS]
 | clo f caps =>
  simp only [kR,BV,mapA,fS,idsL,idsA]
  cases cC call E.hint (pack h (aD aG h (idsL caps ++ idsL vs) [])) f (aM (aJ (aD aG h (idsL caps ++ idsL vs) [])) vs ++ aM (aJ (aD aG h (idsL caps ++ idsL vs) [])) caps) with
  | none => rfl
  | some r =>
   obtain ⟨a,h1⟩:=r
   by_cases c1:(aD aG h (idsL caps ++ idsL vs) []).length ≤ h1.length <;> by_cases c2:closed h (aD aG h (idsL caps ++ idsL vs) []) (idsL caps ++ idsL vs) = true <;> simp [c1,c2]
 | sl id gen off len =>
  simp only [kR,mapA]
  cases aJ (aD aG h (idsL (A.sl id gen off len :: vs)) []) id <;> rfl
 | ptr id gen off =>
  simp only [kR,mapA]
  cases aJ (aD aG h (idsL (A.ptr id gen off :: vs)) []) id <;> rfl
 | mp id =>
  simp only [kR,mapA]
  cases aJ (aD aG h (idsL (A.mp id :: vs)) []) id <;> rfl
 | agg cs => simp only [kR,mapA,fS]
 | tup cs => simp only [kR,mapA,fS]
 | junk => simp only [kR,mapA,fS]
theorem aBi {t:Nat} {args:List Operand} {tys:Array TypeId}:kOp E call thaw dst (.call ⟨.value (.tmp t),args.toArray,tys⟩) s h k = match box (s.getD t (.d .undef)) with
  | .no => none
  | .mk g => kvs s args fun vs => kR E call h g vs k:=by
 unfold kOp kvs
 simp only [opds,bI,bX,box]
 cases bI s args with
 | none => rfl
 | some vs => simp only [qL,if_true]; exact aIt
theorem aAn {f:FuncId} {caps:List D} {vs:List A}:kR E call h (.d (.fn f caps)) vs k = match box (vs ++ caps.map .d) with | .no => none | .mk as' => aS E call h f as' k:=rfl
theorem WQ {f:FuncId} {caps vs:List A}:kR E call h (.clo f caps) vs k = BV E call h f caps vs k:=rfl
theorem S0 {h:H} {ids:List Nat} {h1:H} {ord:List Nat}:∀ (ord:List Nat) (h h1:H) (f:Nat → Option Nat),ord.length ≤ h1.length → (bG f h ord h1).length = h.length + (h1.length - ord.length)
 | [],h,h1,f,_ => by simp [bG]
 | i :: ord,h,[],f,hl => by simp at hl
 | i :: ord,h,o :: h1,f,hl => by
  simp only [bG,S0 (h:=h) (ids:=ids) (h1:=h1) (ord:=ord) ord _ h1 f (by simpa using hl),List.length_set,List.length_cons]
  omega
def wrC (E:Env) (f:FuncId) (ord:List Nat):List Nat:=if (E.hint f).mode == 3 then [] else ord
def iD (E:Env) (f:FuncId) (h h':H) (ord:List Nat):Option (H × Foot):=if ((E.hint f).mode == 1 && h'.length - h.length == 0) = true then some (h,{ ids:=ord,ro:=true }) else some (h',{ ids:=ord ++ List.range' h.length (h'.length - h.length),ro:=false,wr:=wrC E f ord ++ List.range' h.length (h'.length - h.length) })
theorem aHr {f:FuncId} {args:List Operand} {tys:Array TypeId} {q:A → H → Foot → Option R}:kOpD E call thaw dst (.call ⟨.value (.func f),args.toArray,tys⟩) s h q = kvs s args fun vs => match box (aD aG h (idsL vs) []) with
  | .no => none
  | .mk ord => aS E call h f vs fun a h' => if ((E.hint f).mode == 1 && h'.length - h.length == 0) = true then q a h { ids:=ord,ro:=true } else q a h' { ids:=ord ++ List.range' h.length (h'.length - h.length),ro:=false,wr:=wrC E f ord ++ List.range' h.length (h'.length - h.length) }:=by
 unfold kOpD kvs aS
 simp only [opds,bI,bX,box]
 cases bI s args with
 | none => rfl
 | some vs =>
  simp only [mL,mN,Bool.false_eq_true,if_false,iW,idsL,idsA,List.nil_append,aM,mapA,evOp,g6,fS,fQ,List.append_nil,hM]
  cases cC call E.hint (pack h (aD aG h (idsL vs) [])) f (aM (aJ (aD aG h (idsL vs) [])) vs) with
  | none => rfl
  | some r =>
   obtain ⟨a,h1⟩:=r
   by_cases c1:(aD aG h (idsL vs) []).length ≤ h1.length
   ·by_cases c2:closed h (aD aG h (idsL vs) []) (idsL vs) = true
    ·have e:=S0 (h:=h) (ids:=idsL vs) (h1:=h1) (ord:=[]) (aD aG h (idsL vs) []) h h1 (back (aD aG h (idsL vs) []) h.length h1.length) c1
     have e2:(bG (back (aD aG h (idsL vs) []) h.length h1.length) h (aD aG h (idsL vs) []) h1).length - h.length = h1.length - (aD aG h (idsL vs) []).length:=by omega
     simp only [c1,c2,and_self,if_true,e2]
     first | done | rfl | (by_cases c3:((E.hint f).mode == 1 && h1.length - (aD aG h (idsL vs) []).length == 0) = true <;> simp [c3])
    ·simp only [c2,and_false,if_false,Bool.false_eq_true]
   ·simp only [c1,false_and,if_false]
theorem L7 {f:FuncId} {args:List Operand} {tys:Array TypeId} {q:A → H → Foot → Option R}:kOpD E call thaw dst (.call ⟨.value (.func f),args.toArray,tys⟩) s h q = kvs s args fun vs => match box (aD aG h (idsL vs) []) with
  | .no => none
  | .mk ord => aS E call h f vs fun a h' => match box (iD E f h h' ord) with | .mk (some (h'',c)) => q a h'' c | _ => none:=by
 rw [aHr]
 congr 1
 funext vs
 simp only [box]
 congr 1
 funext a h'
 unfold iD
 by_cases hc:((E.hint f).mode == 1 && h'.length - h.length == 0) = true
 ·simp only [if_pos hc]
 ·simp only [if_neg hc]
theorem aE1 {t:Nat} {args:List Operand} {tys:Array TypeId} {q:A → H → Foot → Option R} {f:FuncId} {caps:List D} (hg:Now (s.getD t (.d .undef) = .d (.fn f caps))):kOpD E call thaw dst (.call ⟨.value (.tmp t),args.toArray,tys⟩) s h q = kvs s args fun vs => match box (aD aG h (idsL vs) []) with
  | .no => none
  | .mk ord => aS E call h f (vs ++ caps.map .d) fun a h' => if ((E.hint f).mode == 1 && h'.length - h.length == 0) = true then q a h { ids:=ord,ro:=true } else q a h' { ids:=ord ++ List.range' h.length (h'.length - h.length),ro:=false,wr:=wrC E f ord ++ List.range' h.length (h'.length - h.length) }:=by
 have hg:=hg.it
 unfold kOpD kvs aS
 simp only [opds,bI,bX,box,hg]
 cases bI s args with
 | none => rfl
 | some vs =>
  simp only [mL,mN,Bool.false_eq_true,if_false,iW,idsL,idsA,List.nil_append,aM,mapA,evOp,g6,fS,fQ,List.append_nil,hM,oF,aEE,xI,Z9]
  cases cC call E.hint (pack h (aD aG h (idsL vs) [])) f (aM (aJ (aD aG h (idsL vs) [])) vs ++ caps.map .d) with
  | none => rfl
  | some r =>
   obtain ⟨a,h1⟩:=r
   by_cases c1:(aD aG h (idsL vs) []).length ≤ h1.length
   ·by_cases c2:closed h (aD aG h (idsL vs) []) (idsL vs) = true
    ·have e:=S0 (h:=h) (ids:=idsL vs) (h1:=h1) (ord:=[]) (aD aG h (idsL vs) []) h h1 (back (aD aG h (idsL vs) []) h.length h1.length) c1
     have e2:(bG (back (aD aG h (idsL vs) []) h.length h1.length) h (aD aG h (idsL vs) []) h1).length - h.length = h1.length - (aD aG h (idsL vs) []).length:=by omega
     simp only [c1,c2,and_self,if_true,e2]
     first | done | rfl | (by_cases c3:((E.hint f).mode == 1 && h1.length - (aD aG h (idsL vs) []).length == 0) = true <;> simp [c3])
    ·simp only [c2,and_false,if_false,Bool.false_eq_true]
   ·simp only [c1,false_and,if_false]
def aMm (E:Env) (call:bE) (thaw:List Nat) (dst:Option Tmp) (op:Op) (s:List A) (h:H) (q:A → H → Foot → Option R):Option R:=kOpD E call thaw dst op s h q
theorem VZ {t:Nat} {args:List Operand} {tys:Array TypeId} {q:A → H → Foot → Option R}:kOpD E call thaw dst (.call ⟨.value (.tmp t),args.toArray,tys⟩) s h q = match box (s.getD t (.d .undef)) with
  | .mk (.d (.fn f caps)) => kvs s args fun vs => match box (aD aG h (idsL vs) []) with
   | .no => none
   | .mk ord => match box (vs ++ caps.map .d) with | .no => none | .mk as' => aS E call h f as' fun a h' => match box (iD E f h h' ord) with | .mk (some (h'',c)) => q a h'' c | _ => none
  | .mk (.clo f []) => kvs s args fun vs => match box (aD aG h (idsL vs) []) with
   | .no => none
   | .mk ord => aS E call h f vs fun a h' => match box (iD E f h h' ord) with | .mk (some (h'',c)) => q a h'' c | _ => none
  | _ => aMm E call thaw dst (.call ⟨.value (.tmp t),args.toArray,tys⟩) s h q:=by
 have key:=fun (f:FuncId) (caps:List D) hg => aE1 (E:=E) (call:=call) (thaw:=thaw) (dst:=dst) (s:=s) (h:=h) (t:=t) (args:=args) (tys:=tys) (q:=q) (f:=f) (caps:=caps) hg
 have k2:∀ f,s.getD t (.d .undef) = .clo f [] → kOpD E call thaw dst (.call ⟨.value (.tmp t),args.toArray,tys⟩) s h q = kOpD E call thaw dst (.call ⟨.value (.func f),args.toArray,tys⟩) s h q:=by
  intro f hg
  unfold kOpD kvs
  simp only [opds,bI,bX,hg]
  cases bI s args <;> rfl
 have fold:∀ (f:FuncId) (h h':H) (ord:List Nat) (a:A),(if ((E.hint f).mode == 1 && h'.length - h.length == 0) = true then q a h { ids:=ord,ro:=true } else q a h' { ids:=ord ++ List.range' h.length (h'.length - h.length),ro:=false,wr:=wrC E f ord ++ List.range' h.length (h'.length - h.length) }) = match box (iD E f h h' ord) with | .mk (some (h'',c)) => q a h'' c | _ => none:=by
  intro f h h' ord a
  unfold iD
  by_cases hc:((E.hint f).mode == 1 && h'.length - h.length == 0) = true
  ·simp only [if_pos hc,box]
  ·simp only [if_neg hc,box]
 generalize hs:s.getD t (.d .undef) = a
 cases a with
 | d x =>
  cases x with
  | fn f caps =>
   rw [key f caps ⟨hs⟩]
   simp only [fold]
   rfl
  | _ => rfl
 | clo f caps =>
  cases caps with
  | nil => rw [k2 f hs]; exact L7
  | cons c caps => rfl
 | _ => rfl
theorem I5 (n:Nat) (h:H):aD n h [] [] = []:=by cases n <;> rfl
mutual
theorem xW {f:Nat → Option Nat}:∀ a:A,idsA a = [] → mapA f a = a
 | .d x,_ => by simp only [mapA]
 | .sl id gen off len,h => by simp [idsA] at h
 | .ptr id gen off,h => by simp [idsA] at h
 | .mp id,h => by simp [idsA] at h
 | .clo g caps,h => by simp only [idsA] at h; simp only [mapA]; rw [l7 caps h]
 | .agg cs,h => by simp only [idsA] at h; simp only [mapA]; rw [l7 cs h]
 | .tup cs,h => by simp only [idsA] at h; simp only [mapA]; rw [l7 cs h]
 | .junk,_ => by simp only [mapA]
theorem l7 {f:Nat → Option Nat}:∀ as:List A,idsL as = [] → aM f as = as
 | [],_ => by simp only [aM]
 | a :: as,h => by
  simp only [idsL,List.append_eq_nil_iff] at h
  simp only [aM]
  rw [xW a h.1,l7 as h.2]
end
theorem aJA {a:A} (h:lZ a = true):idsA a = []:=by
 cases a with
 | d x => rfl
 | agg cs =>
  simp only [lZ] at h
  simp only [idsA]
  induction cs with
  | nil => rfl
  | cons c cs ih =>
   simp only [List.all_cons,Bool.and_eq_true] at h
   simp only [idsL,ih h.2,List.append_nil]
   cases c <;> first | rfl | simp [isD] at h
 | _ => simp [lZ] at h
theorem lM:∀ {as:List A},as.all lZ = true → idsL as = []
 | [],_ => rfl
 | a :: as,h => by
  simp only [List.all_cons,Bool.and_eq_true] at h
  simp only [idsL,aJA h.1,lM h.2,List.append_nil]
theorem VA {h:H}:∀ {cs:List A},cs.all isD = true → ∃ ds,frzL h cs = some (ds,h) ∧ ds.map .d = cs
 | [],_ => ⟨[],rfl,rfl⟩
 | c :: cs,hs => by
  simp only [List.all_cons,Bool.and_eq_true] at hs
  obtain ⟨ds,h1,h2⟩:=VA (h:=h) hs.2
  cases c with
  | d x =>
   refine ⟨x :: ds,?_,by simp [h2]⟩
   unfold frzL at h1 ⊢
   simp only [dS]
   have:frz deep h (.d x) = some (x,h):=rfl
   rw [this]
   simp only [h1]
  | _ => simp [isD] at hs
theorem mO {h:H}:∀ {as:List A},as.all lZ = true → eZ h as = some (as,h)
 | [],_ => rfl
 | a :: as,hs => by
  simp only [List.all_cons,Bool.and_eq_true] at hs
  have ha:frzA h a = some (a,h):=by
   cases a with
   | d x => rfl
   | agg cs =>
    obtain ⟨ds,h1,h2⟩:=VA (h:=h) (cs:=cs) (by simpa only [lZ] using hs.1)
    simp only [frzA,h1,h2]
   | _ => simp [lZ] at hs
  simp only [eZ,ha,mO hs.2]
theorem aEX {r:A} (h:fH r = true):jA r = true ∧ mapA (fun k => back [] 0 0 k) r = r:=by
 cases r with
 | d x => cases x <;> first | exact ⟨rfl,rfl⟩ | simp [fH] at h
 | tup vs =>
  simp only [fH] at h
  have key:gX vs = true ∧ aM (fun k => back [] 0 0 k) vs = vs:=by
   induction vs with
   | nil => exact ⟨rfl,by simp only [aM]⟩
   | cons v vs ih =>
    simp only [List.all_cons,Bool.and_eq_true] at h
    obtain ⟨i1,i2⟩:=ih h.2
    cases v with
    | d x => cases x <;> first | (exfalso; simp at h; done) | (refine ⟨by simp only [gX,jA,qK,i1,Bool.and_self],by simp only [aM,mapA,i2]⟩)
    | _ => simp at h
  exact ⟨by simp only [jA]; exact key.1,by simp only [mapA,key.2]⟩
 | _ => simp [fH] at h
theorem aES {f:FuncId} {args:List A} {r:A} (hs:args.all lZ = true) (hc:call f args [] = some (r,[])) (hp:fH r = true ∨ ((E.hint f).mode == 1 || (E.hint f).mode == 3) = false):cC call E.hint [] f args = some (r,[]):=by
 unfold cC
 split
 ·exact hc
 ·rename_i hm
  rw [mO hs]
  simp only [hc]
  rcases hp with hp | hp
  ·rw [hp]; rfl
  ·rw [hm] at hp; cases hp
 ·rename_i hm
  rw [mO hs]
  simp only [hc]
  rcases hp with hp | hp
  ·obtain ⟨h1,h2⟩:=aEX hp
   rw [h1]
   simp only [List.all_nil,Bool.and_self,if_true,List.length_nil,List.map_nil,List.append_nil]
   exact congrArg (fun x => some (x,([]:H))) h2
  ·rw [hm] at hp; cases hp
 ·rw [mO hs]
  simp only [hc]
theorem cP {f:FuncId} {args:List A} {r:A} (hs:args.all lZ = true) (hc:call f args [] = some (r,[])) (hr:idsA r = []) (hp:fH r = true ∨ ((E.hint f).mode == 1 || (E.hint f).mode == 3) = false):aS E call h f args k = k r h:=by
 unfold aS
 rw [lM hs,I5,l7 _ (lM hs)]
 have:pack h [] = []:=rfl
 rw [this,aES hs hc hp]
 simp only [List.length_nil,Nat.le_refl,true_and,closed,List.all_nil,Bool.and_self,if_true,xW r hr,bG,List.map_nil,List.append_nil]
def nH (call:bE) (f:FuncId) (args:List A) (k:A → Option R):Option R :=
 match call f args [] with
 | some (r,[]) => if fH r = true then k r else none
 | _ => none
theorem gF {f:FuncId} {args:List A} {r:A} {k:A → Option R} (hc:call f args [] = some (r,[])) (hp:fH r = true):nH call f args k = k r:=by
 unfold nH
 rw [hc]
 simp only [hp,if_true]
theorem aIk {r:A} (h:fH r = true):idsA r = []:=by
 cases r with
 | d x => rfl
 | tup vs =>
  simp only [fH] at h
  simp only [idsA]
  induction vs with
  | nil => rfl
  | cons v vs ih =>
   simp only [List.all_cons,Bool.and_eq_true] at h
   simp only [idsL,ih h.2,List.append_nil]
   cases v with
   | d x => rfl
   | _ => simp at h
 | _ => simp [fH] at h
theorem aJN (ord:List Nat) (n:Nat):back ord n ord.length = fun k => ord[k]?:=by
 funext k
 unfold back
 split
 ·rfl
 ·rename_i h
  rw [List.getElem?_eq_none (by omega)]
theorem aCC {h:H} {ord ids:List Nat} (hc:closed h ord ids = true) (hn:ord.Nodup) (hl:∀ i ∈ ord,i < h.length):bG (fun (k:Nat) => ord[k]?) h ord (pack h ord) = h:=by
 apply List.ext_getElem?
 intro id
 rw [EW _ ord h _ id hn hl (by simp [pack])]
 cases hp:aJ ord id with
 | none =>
  simp only []
  split
  ·rfl
  ·rename_i hge
   rw [List.getElem?_eq_none (by simp [pack]),List.getElem?_eq_none (by omega)]
   rfl
 | some k =>
  simp only []
  have hm:=aAF hp
  obtain ⟨o,ho⟩:∃ o,h[id]? = some o:=⟨h[id]'(hl id hm),List.getElem?_eq_getElem _⟩
  rw [mM (bJ hp) ho,ho,Option.map_some,aAN hc hm ho]
theorem aEY {f:FuncId} {args:List A} (hm:(E.hint f).mode = 1):aS E call h f args k = match box (aD aG h (idsL args) []) with
  | .no => none
  | .mk ord => match box (eZ (pack h ord) (aM (aJ ord) args)) with
   | .mk (some (fs,_)) => if closed h ord (idsL args) = true then nH call f fs fun r => k r h else none
   | _ => none:=by
 unfold aS cC
 rw [hm]
 simp only [box]
 cases hf:eZ (pack h (aD aG h (idsL args) [])) (aM (aJ (aD aG h (idsL args) [])) args) with
 | none => rfl
 | some r =>
  obtain ⟨fs,h1⟩:=r
  simp only [nH]
  cases hc:call f fs [] with
  | none => simp
  | some r =>
   obtain ⟨a,h2⟩:=r
   cases h2 with
   | cons o h2 => simp
   | nil =>
    simp only []
    by_cases hp:fH a = true
    ·simp only [hp,if_true]
     have hlen:(pack h (aD aG h (idsL args) [])).length = (aD aG h (idsL args) []).length:=by simp [pack]
     simp only [hlen,Nat.le_refl,true_and]
     by_cases hcl:closed h (aD aG h (idsL args) []) (idsL args) = true
     ·simp only [hcl,if_true,aJN,xW a (aIk hp)]
      rw [aCC hcl (dF aG h (idsL args) [] (by simp)) (gZ aG h (idsL args) [] (by simp))]
     ·simp only [hcl,Bool.false_eq_true,if_false]
    ·simp only [hp,Bool.false_eq_true,if_false]
     simp
def D9 (h:H) (args:List A):Option (List A):=match box (aD aG h (idsL args) []) with
 | .no => none
 | .mk ord => match box (eZ (pack h ord) (aM (aJ ord) args)) with
  | .mk (some (fs,_)) => if closed h ord (idsL args) = true then some fs else none
  | _ => none
theorem dM {f:FuncId} {args:List A} (hm:(E.hint f).mode = 1):aS E call h f args k = match box (D9 h args) with
  | .mk (some fs) => nH call f fs fun r => k r h
  | _ => none:=by
 rw [aEY hm]
 unfold D9
 simp only [box]
 cases eZ (pack h (aD aG h (idsL args) [])) (aM (aJ (aD aG h (idsL args) [])) args) with
 | none => rfl
 | some r =>
  obtain ⟨fs,h1⟩:=r
  simp only []
  by_cases hc:closed h (aD aG h (idsL args) []) (idsL args) = true
  ·simp only [if_pos hc]
  ·simp only [if_neg hc]
theorem aFC {nf:Nat} {h:H} {ord:List Nat} {s:List A}:trim nf h ord s = match box (pack h ord) with
  | .mk p => (bP nf p (aM (aJ ord) s),gH nf p)
  | .no => ([],[]):=rfl
theorem aLq {nf:Nat} {m:List Bool} {s:List A} {h:H}:gc nf m s h = match box (tidy m s) with
  | .mk s1 => match box (dL nf h (idsL s1)) with
   | .mk ord => trim nf h ord s1
   | .no => ([],[])
  | .no => ([],[]):=rfl
theorem aFL {P:Program} {nf:Nat} {exp:Bool} {rs:List ResultVar} {e:Exit} {s:List A} {h:H}:kFin P nf exp rs e s h =
  if jB e then (match iU P s h rs with
   | some rs => match tZ nf exp h rs with
    | some (xs,h2) => match box (dL nf h2 (idsL xs)) with
     | .mk ord => match box (trim nf h2 ord xs) with
      | .mk r => some (tupA r.1,r.2)
      | .no => none
     | .no => none
    | none => none
   | none => none) else none:=rfl
theorem UT (nf:Nat) (h:H) (ids:List Nat):dL nf h ids = aD 1099511627776 h (kN (h.take nf) ++ ids) (List.range nf):=rfl
theorem rng0:List.range 0 = []:=rfl
theorem rng1:List.range 1 = [0]:=rfl
theorem AG (h:H) (ids:List Nat):dL 0 h ids = aD 1099511627776 h ids []:=by
 unfold dL
 simp only [List.take_zero,kN,List.nil_append,List.range_zero]
 rfl
theorem aBJ (n:Nat) (h:H) (acc:List Nat):aD n h [] acc = acc:=by cases n <;> rfl
theorem XX (n:Nat) (h:H) (i:Nat) (todo acc:List Nat):aD (n + 1) h (i :: todo) acc = if acc.contains i = true then aD n h todo acc
  else match h.getD i .void with
   | .box cs => aD n h (todo ++ idsL cs) (acc ++ [i])
   | .vec cs _ _ => aD n h (todo ++ idsL cs) (acc ++ [i])
   | .void => aD n h todo acc
   | _ => aD n h todo (acc ++ [i]):=by
 simp only [aD,List.getD_eq_getElem?_getD]
 split
 ·rfl
 ·cases h[i]? with
  | none => rfl
  | some o => cases o <;> rfl
theorem aDN {α:Type} {c:Prop} [Decidable c] {a:α} (hc:c):(if c then some a else none) = some a:=if_pos hc
def iAnd (k:IntKind) (a b:Int):Int:=k.wrap (BitVec.ofInt k.bits a &&& BitVec.ofInt k.bits b).toNat
def iOr (k:IntKind) (a b:Int):Int:=k.wrap (BitVec.ofInt k.bits a ||| BitVec.ofInt k.bits b).toNat
section
variable {t:TypeId} {K:IntKind} {a b:Int}
theorem aBI:bN E .add t h (.d (.int K a)) (.d (.int K b)) = some (.d (.int K (K.wrap (a + b))),h):=by simp [bN,aBin]; rfl
theorem aAC:bN E .sub t h (.d (.int K a)) (.d (.int K b)) = some (.d (.int K (K.wrap (a - b))),h):=by simp [bN,aBin]; rfl
theorem aAs:bN E .mul t h (.d (.int K a)) (.d (.int K b)) = some (.d (.int K (K.wrap (a * b))),h):=by simp [bN,aBin]; rfl
theorem aBz:bN E .and t h (.d (.int K a)) (.d (.int K b)) = some (.d (.int K (iAnd K a b)),h):=by simp [bN,aBin]; rfl
theorem aDO:bN E .or t h (.d (.int K a)) (.d (.int K b)) = some (.d (.int K (iOr K a b)),h):=by simp [bN,aBin]; rfl
theorem aBD:bN E .lss t h (.d (.int K a)) (.d (.int K b)) = some (.d (.bool (decide (a < b))),h):=by simp [bN,aBin]
theorem aBt:bN E .leq t h (.d (.int K a)) (.d (.int K b)) = some (.d (.bool (decide (a ≤ b))),h):=by simp [bN,aBin]
theorem aAr:bN E .gtr t h (.d (.int K a)) (.d (.int K b)) = some (.d (.bool (decide (b < a))),h):=by simp [bN,aBin]
theorem aAk:bN E .geq t h (.d (.int K a)) (.d (.int K b)) = some (.d (.bool (decide (b ≤ a))),h):=by simp [bN,aBin]
theorem aAX:bN E .eql t h (.d (.int K a)) (.d (.int K b)) = some (.d (.bool (decide (a = b))),h):=by simp [bN,aBin]; rfl
theorem aBq:bN E .neq t h (.d (.int K a)) (.d (.int K b)) = some (.d (.bool (!decide (a = b))),h):=by simp [bN,aBin]; rfl
theorem aBh (hb:b ≠ 0):bN E .quo t h (.d (.int K a)) (.d (.int K b)) = some (.d (.int K (K.wrap (a.tdiv b))),h):=by simp [bN,aBin,hb]
theorem aBZ (hb:b ≠ 0):bN E .rem t h (.d (.int K a)) (.d (.int K b)) = some (.d (.int K (a.tmod b)),h):=by simp [bN,aBin,hb]
theorem aAl {K2:IntKind} (hb:0 ≤ b):bN E .shl t h (.d (.int K a)) (.d (.int K2 b)) = some (.d (.int K (K.wrap (a * 2 ^ (min b.toNat K.bits)))),h):=by
 have:¬ b < 0:=by omega
 simp [bN,aBin,Op.shift,this]; rfl
theorem aBY {K2:IntKind} (hb:0 ≤ b):bN E .shr t h (.d (.int K a)) (.d (.int K2 b)) = some (.d (.int K (a.fdiv (2 ^ (min b.toNat K.bits)))),h):=by
 have:¬ b < 0:=by omega
 simp [bN,aBin,Op.shift,this]; rfl
theorem aF3 {b:Bool}:aUn .not (.d (.bool b)) = some (.d (.bool (!b))):=rfl
end
end
theorem WD:type_of% (AI @UK (AI @aBn (AI @QJ (AI @aBP (AI @V4 (AI @Q4 (AI @YC (AI @YA (AI @aBG (AI @aDZ (AI @aBd (AI @aBS (AI @WC (AI @QN (AI @Q3 (AI @aIZ (AI @aIq (AI @aF8 (AI @aH8 (AI @aFP (AI @aFH (AI @aFB (AI @aD1 (AI @aCz (AI @G4 (AI @A0 (AI @aFW (AI @aHP (AI @aDJ (AI @aD9 (AI @aEy (AI @aAG (AI @aBc (AI @aFG (AI @aBN (AI @F1 (AI @MM (AI @KW (AI @Q6 (AI @J4 (AI @JW (AI @aAq (AI @Q5 (AI @RL (AI @aAI (AI @aFL (AI @NI (AI @WE (AI @aBV (AI @QK @KR)))))))))))))))))))))))))))))))))))))))))))))))))) :=
 ⟨@UK,@aBn,@QJ,@aBP,@V4,@Q4,@YC,@YA,@aBG,@aDZ,@aBd,@aBS,@WC,@QN,@Q3,@aIZ,@aIq,@aF8,@aH8,@aFP,@aFH,@aFB,@aD1,@aCz,@G4,@A0,@aFW,@aHP,@aDJ,@aD9,@aEy,@aAG,@aBc,@aFG,@aBN,@F1,@MM,@KW,@Q6,@J4,@JW,@aAq,@Q5,@RL,@aAI,@aFL,@NI,@WE,@aBV,@QK,@KR⟩
theorem WDD:type_of% (AI @aAm (AI @YD (AI @QX (AI @VK (AI @DU (AI @G2 (AI @RH (AI @aCF (AI @aAA (AI @aDm (AI @aF2 (AI @J5 (AI @FV (AI @MA (AI @L7 (AI @aBi (AI @aAn @WQ))))))))))))))))) :=
 ⟨@aAm,@YD,@QX,@VK,@DU,@G2,@RH,@aCF,@aAA,@aDm,@aF2,@J5,@FV,@MA,@L7,@aBi,@aAn,@WQ⟩
theorem WK0:type_of% (AI @aJg (AI @aF3 (AI @aBI (AI @aAC (AI @aAs (AI @aBz (AI @aDO (AI @aBh (AI @aBZ (AI @aAl (AI @aBY (AI @aBD (AI @aBt (AI @aAr (AI @aAk (AI @aAX (AI @aBq (AI @List.getD_nil.{0} (AI @List.set_cons_zero.{0} (AI @List.set_cons_succ.{0} (AI @aLq @aFC))))))))))))))))))))) :=
 ⟨@aJg,@aF3,@aBI,@aAC,@aAs,@aBz,@aDO,@aBh,@aBZ,@aAl,@aBY,@aBD,@aBt,@aAr,@aAk,@aAX,@aBq,@List.getD_nil.{0},@List.set_cons_zero.{0},@List.set_cons_succ.{0},@aLq,@aFC⟩
theorem WK1:type_of% (AI @Bool.not_true (AI @Bool.not_false (AI @Bool.true_eq_false (AI @decide_eq_true_eq (AI @decide_eq_false_iff_not (AI @Option.map_some.{0,0} (AI @decide_true (AI @decide_false (AI @aDN (AI @Nat.mul_one (AI @Nat.one_mul (AI @List.drop_zero.{0} (AI @List.all_cons.{0} (AI @List.all_nil.{0} (AI @Bool.and_self (AI @Bool.and_true @Bool.true_and)))))))))))))))) :=
 ⟨@Bool.not_true,@Bool.not_false,@Bool.true_eq_false,@decide_eq_true_eq,@decide_eq_false_iff_not,@Option.map_some.{0,0},@decide_true,@decide_false,@aDN,@Nat.mul_one,@Nat.one_mul,@List.drop_zero.{0},@List.all_cons.{0},@List.all_nil.{0},@Bool.and_self,@Bool.and_true,@Bool.true_and⟩
theorem WK2:type_of% (AI @Bool.false_and (AI @Bool.and_false (AI @List.zip_cons_cons.{0,0} (AI @List.zip_nil_left.{0,0} (AI @List.flatten_cons.{0} (AI @List.flatten_nil.{0} (AI @List.take_zero.{0} (AI @List.take_nil.{0} (AI @List.drop_nil.{0} (AI @Bool.or_self (AI @Bool.or_false (AI @Nat.not_lt_zero (AI @and_self (AI @and_true (AI @true_and (AI @Bool.or_true (AI @Bool.true_or (AI @List.drop_succ_cons.{0} (AI @List.take_succ_cons.{0} (AI @Nat.lt_irrefl (AI @List.head?_cons.{0} (AI @List.contains_cons.{0} (AI @List.contains_nil.{0} @UT))))))))))))))))))))))) :=
 ⟨@Bool.false_and,@Bool.and_false,@List.zip_cons_cons.{0,0},@List.zip_nil_left.{0,0},@List.flatten_cons.{0},@List.flatten_nil.{0},@List.take_zero.{0},@List.take_nil.{0},@List.drop_nil.{0},@Bool.or_self,@Bool.or_false,@Nat.not_lt_zero,@and_self,@and_true,@true_and,@Bool.or_true,@Bool.true_or,@List.drop_succ_cons.{0},@List.take_succ_cons.{0},@Nat.lt_irrefl,@List.head?_cons.{0},@List.contains_cons.{0},@List.contains_nil.{0},@UT⟩
theorem WK3:type_of% (AI @rng0 (AI @rng1 (AI @Option.isNone_none.{0} (AI @Option.isNone_some.{0} (AI @Option.isSome_none.{0} (AI @Option.isSome_some.{0} (AI @aBJ (AI @XX (AI @beq_self_eq_true.{0} (AI @Nat.succ_ne_self (AI @Nat.zero_ne_one (AI @List.length_append.{0} (AI @or_false @or_true))))))))))))) :=
 ⟨@rng0,@rng1,@Option.isNone_none.{0},@Option.isNone_some.{0},@Option.isSome_none.{0},@Option.isSome_some.{0},@aBJ,@XX,@beq_self_eq_true.{0},@Nat.succ_ne_self,@Nat.zero_ne_one,@List.length_append.{0},@or_false,@or_true⟩
theorem WK:type_of% (AI @WK0 (AI @WK1 (AI @WK2 @WK3))) :=
 ⟨@WK0,@WK1,@WK2,@WK3⟩
section
variable {E:Env} {vs:List A} {t u:TypeId} {x y:Operand}
theorem J2 {a:Array Operand} {b:Array TypeId}:hM E (.call ⟨.builtin .append,a,b⟩) vs = false:=rfl
theorem L5:hM E (.alloc t) vs = false:=rfl
theorem JU:hM E (.assign x) vs = false:=rfl
theorem OG:hM E (.store t x y) vs = false:=rfl
theorem aBB {n:Nat} {ps:Array (Nat × Operand)}:hM E (.buildSlice t n ps) vs = false:=rfl
theorem XG:opds (.alloc t) = []:=rfl
end
theorem UNx5:type_of% (fun v0 v1 v2 v3 => @outA.eq_2 v0 v1 v2 (A.d v3) (by nofun)):=by intros; rfl
theorem UNx6:type_of% (fun v0 v1 v2 v3 v4 v5 v6 => @outA.eq_2 v0 v1 v2 (A.sl v3 v4 v5 v6) (by nofun)):=by intros; rfl
theorem UNx9:type_of% (fun v0 v1 v2 v3 v4 => @outA.eq_2 v0 v1 v2 (A.clo v3 v4) (by nofun)):=by intros; rfl
theorem aLi:type_of% (fun v0 v1 v2 v3 v4 => @outS.eq_2 v0 v1 v2 (D.int v3 v4) (by nofun)):=by intros; rfl
theorem aK9:type_of% (fun v0 v1 v2 v3 => @outS.eq_2 v0 v1 v2 (D.bool v3) (by nofun)):=by intros; rfl
theorem aK6:type_of% (fun v0 v1 v2 v3 => @outS.eq_2 v0 v1 v2 (D.str v3) (by nofun)):=by intros; rfl
theorem aLj:type_of% (fun v0 v1 => @eV.eq_3 (A.d (D.int v0 v1)) (by nofun) (by nofun)):=by intros; rfl
theorem aK8:type_of% (fun v0 => @eV.eq_3 (A.d (D.bool v0)) (by nofun) (by nofun)):=by intros; rfl
theorem aLu:type_of% (fun v0 => @eV.eq_3 (A.d (D.str v0)) (by nofun) (by nofun)):=by intros; rfl
theorem aLb:type_of% (fun v0 v1 => @eV.eq_3 (A.d (D.ivs v0 v1)) (by nofun) (by nofun)):=by intros; rfl
theorem aLw:type_of% (@eV.eq_3 (A.d D.nils) (by nofun) (by nofun)):=(@eV.eq_3 (A.d D.nils) (by nofun) (by nofun))
theorem aLc:type_of% (fun v0 v1 => @eV.eq_3 (A.d (D.fn v0 v1)) (by nofun) (by nofun)):=by intros; rfl
theorem aLy:type_of% (fun v0 v1 v2 v3 => @eV.eq_3 (A.sl v0 v1 v2 v3) (by nofun) (by nofun)):=by intros; rfl
theorem aLd:type_of% (fun v0 v1 v2 => @eV.eq_3 (A.ptr v0 v1 v2) (by nofun) (by nofun)):=by intros; rfl
theorem aLk:type_of% (fun v0 => @eV.eq_3 (A.mp v0) (by nofun) (by nofun)):=by intros; rfl
theorem aLs:type_of% (fun v0 v1 => @eV.eq_3 (A.clo v0 v1) (by nofun) (by nofun)):=by intros; rfl
theorem aLh:type_of% (fun v0 => @tidy.eq_3 List.nil v0 (by nofun) (by nofun)):=by intros; rfl
theorem aLg:type_of% (fun v0 v1 v2 v3 v4 => @bW.eq_2 v0 v1 v2 v3 (A.d v4) (by nofun)):=by intros; rfl
theorem aLt:type_of% (fun v0 v1 v2 v3 v4 v5 v6 v7 => @bW.eq_2 v0 v1 v2 v3 (A.sl v4 v5 v6 v7) (by nofun)):=by intros; rfl
theorem aLn:type_of% (fun v0 v1 v2 => @frz.eq_5 v0 (A.d v2) v1 (by nofun) (by nofun) (by nofun)):=by intros; rfl
theorem aLr:type_of% (fun v0 => @aR.eq_2 (A.d v0) (by nofun)):=by intros; rfl
theorem aLm:type_of% (fun v0 v1 v2 v3 => @aR.eq_2 (A.sl v0 v1 v2 v3) (by nofun)):=by intros; rfl
theorem aLa:type_of% (fun v0 => @aR.eq_2 (A.mp v0) (by nofun)):=by intros; rfl
theorem aHU:type_of% (fun v0 v1 => @dO.eq_5 (A.d (D.int v0 v1)) (by nofun) (by nofun) (by nofun) (by nofun)):=by intros; rfl
theorem aIn:type_of% (fun v0 => @dO.eq_5 (A.d (D.bool v0)) (by nofun) (by nofun) (by nofun) (by nofun)):=by intros; rfl
theorem aIJ:type_of% (fun v0 => @dO.eq_5 (A.d (D.str v0)) (by nofun) (by nofun) (by nofun) (by nofun)):=by intros; rfl
theorem aIK:type_of% (fun v0 v1 => @dO.eq_5 (A.d (D.ivs v0 v1)) (by nofun) (by nofun) (by nofun) (by nofun)):=by intros; rfl
theorem aHS:type_of% (@dO.eq_5 (A.d D.nils) (by nofun) (by nofun) (by nofun) (by nofun)):=(@dO.eq_5 (A.d D.nils) (by nofun) (by nofun) (by nofun) (by nofun))
theorem aIv:type_of% (fun v0 v1 => @dO.eq_5 (A.d (D.fn v0 v1)) (by nofun) (by nofun) (by nofun) (by nofun)):=by intros; rfl
theorem aIX:type_of% (fun v0 v1 v2 v3 => @dO.eq_5 (A.sl v0 v1 v2 v3) (by nofun) (by nofun) (by nofun) (by nofun)):=by intros; rfl
theorem aIc:type_of% (fun v0 => @dO.eq_5 (A.mp v0) (by nofun) (by nofun) (by nofun) (by nofun)):=by intros; rfl
theorem aHO:type_of% (fun v0 => @sP.eq_2 (A.d v0) (by nofun)):=by intros; rfl
theorem aJv:type_of% (fun v0 v1 v2 v3 => @sP.eq_2 (A.sl v0 v1 v2 v3) (by nofun)):=by intros; rfl
theorem aI9:type_of% (fun v0 => @sP.eq_2 (A.agg v0) (by nofun)):=by intros; rfl
theorem aJx:type_of% (fun v0 v1 v2 v3 => @kN.eq_4 (O.arr v1 v2 v3) v0 (by nofun) (by nofun)):=by intros; rfl
theorem aI2:type_of% (fun v0 v1 => @kN.eq_4 (O.mp v1) v0 (by nofun) (by nofun)):=by intros; rfl
theorem aJw:type_of% (@tupA.eq_2 List.nil (by nofun)):=(@tupA.eq_2 List.nil (by nofun))
theorem aHR:type_of% (fun v0 v1 v2 => @tupA.eq_2 (List.cons v0 (List.cons v1 v2)) (by nofun)):=by intros; rfl
theorem aH2:type_of% (fun v0 v1 v2 v3 v4 => @CK.eq_2 v0 v1 (Go.Operand.tmp v4) v2 v3 (by nofun)):=by intros; rfl
theorem aJJ:type_of% (fun v0 v1 v2 v3 => @aZ.eq_3 v0 (A.d (D.int v2 v3)) v1 (by nofun)):=by intros; rfl
theorem aHQ:type_of% (fun v0 v1 v2 v3 => @aZ.eq_3 v0 (A.d (D.ivs v2 v3)) v1 (by nofun)):=by intros; rfl
theorem aIF:type_of% (fun v0 v1 v2 v3 => @aZ.eq_3 v0 (A.d (D.fn v2 v3)) v1 (by nofun)):=by intros; rfl
theorem aI5:type_of% (fun v0 v1 v2 v3 v4 v5 => @aZ.eq_3 v0 (A.sl v2 v3 v4 v5) v1 (by nofun)):=by intros; rfl
theorem aI3:type_of% (fun v0 v1 v2 => @aZ.eq_3 v0 (A.mp v2) v1 (by nofun)):=by intros; rfl
theorem aJE:type_of% (fun v0 v1 v2 v3 => @mapO.eq_3 v0 (O.arr v1 v2 v3) (by nofun) (by nofun)):=by intros; rfl
theorem aJd:type_of% (fun v0 v1 v2 v3 => @mapO.eq_3 v0 (O.ice v1 v2 v3) (by nofun) (by nofun)):=by intros; rfl
theorem aJe:type_of% (fun v0 v1 => @mapO.eq_3 v0 (O.log v1) (by nofun) (by nofun)):=by intros; rfl
theorem aJh:type_of% (fun v0 v1 => @mapO.eq_3 v0 (O.mp v1) (by nofun) (by nofun)):=by intros; rfl
theorem aHY:type_of% (fun v0 v1 => @frzA.eq_2 v0 (A.d v1) (by nofun)):=by intros; rfl
theorem aIj:type_of% (fun v0 v1 v2 v3 v4 => @frzA.eq_2 v0 (A.sl v1 v2 v3 v4) (by nofun)):=by intros; rfl
theorem aJi:type_of% (fun v0 v1 v2 => @frzA.eq_2 v0 (A.clo v1 v2) (by nofun)):=by intros; rfl
theorem UN0:type_of% (AI @XG (AI @aLen.eq_def (AI @J2 (AI @L5 (AI @JU (AI @OG (AI @aBB (AI @List.range'.eq_1 (AI @List.range'.eq_2 (AI @A7.eq_1 @FU.eq_1)))))))))) :=
 ⟨@XG,@aLen.eq_def,@J2,@L5,@JU,@OG,@aBB,@List.range'.eq_1,@List.range'.eq_2,@A7.eq_1,@FU.eq_1⟩
theorem UN1:type_of% (AI @aPut.eq_1 (AI @aPut.eq_2 (AI @jB.eq_1 (AI @jB.eq_2 (AI @outA.eq_1 (AI @UNx5 (AI @UNx6 (AI @UNx9 (AI @outS.eq_1 (AI @aLi (AI @aK9 (AI @aK6 (AI @outS.eq_3 (AI @outS.eq_6 (AI @zD.eq_1 (AI @zD.eq_2 (AI @idsA.eq_1 @idsA.eq_2))))))))))))))))) :=
 ⟨@aPut.eq_1,@aPut.eq_2,@jB.eq_1,@jB.eq_2,@outA.eq_1,@UNx5,@UNx6,@UNx9,@outS.eq_1,@aLi,@aK9,@aK6,@outS.eq_3,@outS.eq_6,@zD.eq_1,@zD.eq_2,@idsA.eq_1,@idsA.eq_2⟩
theorem UN2:type_of% (AI @idsA.eq_3 (AI @idsA.eq_4 (AI @idsA.eq_5 (AI @idsA.eq_7 (AI @idsA.eq_8 (AI @idsL.eq_1 (AI @idsL.eq_2 (AI @mapA.eq_1 (AI @mapA.eq_2 (AI @mapA.eq_3 (AI @mapA.eq_4 (AI @mapA.eq_5 (AI @mapA.eq_7 (AI @mapA.eq_8 (AI @bP.eq_1 (AI @bP.eq_2 (AI @cW.eq_1 (AI @cW.eq_2 (AI @cW.eq_3 (AI @cW.eq_4 (AI @cW.eq_5 (AI @cW.eq_7 (AI @cW.eq_8 (AI @GY.eq_1 (AI @M0.eq_1 (AI @cV.eq_1 (AI @gH.eq_1 (AI @dY.eq_1 (AI @dY.eq_2 (AI @bO.eq_1 (AI @bO.eq_2 (AI @bO.eq_3 (AI @bO.eq_5 (AI @bO.eq_6 @aM.eq_1)))))))))))))))))))))))))))))))))) :=
 ⟨@idsA.eq_3,@idsA.eq_4,@idsA.eq_5,@idsA.eq_7,@idsA.eq_8,@idsL.eq_1,@idsL.eq_2,@mapA.eq_1,@mapA.eq_2,@mapA.eq_3,@mapA.eq_4,@mapA.eq_5,@mapA.eq_7,@mapA.eq_8,@bP.eq_1,@bP.eq_2,@cW.eq_1,@cW.eq_2,@cW.eq_3,@cW.eq_4,@cW.eq_5,@cW.eq_7,@cW.eq_8,@GY.eq_1,@M0.eq_1,@cV.eq_1,@gH.eq_1,@dY.eq_1,@dY.eq_2,@bO.eq_1,@bO.eq_2,@bO.eq_3,@bO.eq_5,@bO.eq_6,@aM.eq_1⟩
theorem UN3:type_of% (AI @aM.eq_2 (AI @nM.eq_1 (AI @nM.eq_2 (AI @nM.eq_3 (AI @eV.eq_1 (AI @eV.eq_2 (AI @aLj (AI @aK8 (AI @aLu (AI @aLb (AI @aLw (AI @aLc (AI @aLy (AI @aLd (AI @aLk (AI @aLs (AI @tidy.eq_1 (AI @tidy.eq_2 (AI @aLh (AI @bW.eq_1 (AI @aLg (AI @aLt (AI @bW.eq_3 @sL.eq_1))))))))))))))))))))))) :=
 ⟨@aM.eq_2,@nM.eq_1,@nM.eq_2,@nM.eq_3,@eV.eq_1,@eV.eq_2,@aLj,@aK8,@aLu,@aLb,@aLw,@aLc,@aLy,@aLd,@aLk,@aLs,@tidy.eq_1,@tidy.eq_2,@aLh,@bW.eq_1,@aLg,@aLt,@bW.eq_3,@sL.eq_1⟩
theorem UN4:type_of% (AI @lB.eq_1 (AI @aCu.eq_1 (AI @aGn.eq_1 (AI @keeps.eq_1 (AI @logs.eq_1 @ED.eq_1))))) :=
 ⟨@lB.eq_1,@aCu.eq_1,@aGn.eq_1,@keeps.eq_1,@logs.eq_1,@ED.eq_1⟩
theorem UN5:type_of% (AI @dU.eq_4 (AI @iG.eq_1 (AI @lN.eq_1 (AI @wO.eq_1 (AI @kC.eq_1 (AI @kC.eq_2 (AI @oX.eq_1 (AI @fU.eq_1 (AI @gJ.eq_1 (AI @gJ.eq_3 (AI @frzL.eq_1 (AI @dS.eq_1 (AI @dS.eq_2 (AI @frz.eq_2 (AI @frz.eq_3 (AI @frz.eq_4 (AI @aLn (AI @frz0.eq_1 (AI @frz0.eq_2 (AI @deep.eq_1 (AI @aR.eq_1 (AI @aLr (AI @aLm @aLa))))))))))))))))))))))) :=
 ⟨@dU.eq_4,@iG.eq_1,@lN.eq_1,@wO.eq_1,@kC.eq_1,@kC.eq_2,@oX.eq_1,@fU.eq_1,@gJ.eq_1,@gJ.eq_3,@frzL.eq_1,@dS.eq_1,@dS.eq_2,@frz.eq_2,@frz.eq_3,@frz.eq_4,@aLn,@frz0.eq_1,@frz0.eq_2,@deep.eq_1,@aR.eq_1,@aLr,@aLm,@aLa⟩
theorem UN6:type_of% (AI @cG.eq_1 (AI @aHU (AI @aIn (AI @aIJ (AI @aIK (AI @aHS (AI @aIv (AI @aIX (AI @aIc (AI @aHO (AI @aJv (AI @aI9 (AI @kN.eq_1 (AI @kN.eq_2 (AI @aJx (AI @aI2 @iU.eq_1)))))))))))))))) :=
 ⟨@cG.eq_1,@aHU,@aIn,@aIJ,@aIK,@aHS,@aIv,@aIX,@aIc,@aHO,@aJv,@aI9,@kN.eq_1,@kN.eq_2,@aJx,@aI2,@iU.eq_1⟩
theorem UN7:type_of% (AI @iU.eq_2 (AI @vV.eq_1 (AI @vV.eq_2 (AI @tZ.eq_1 (AI @tZ.eq_2 (AI @tupA.eq_1 (AI @aJw (AI @aHR (AI @pE.eq_1 (AI @pE.eq_2 (AI @opds.eq_2 (AI @opds.eq_13 (AI @opds.eq_14 @opds.eq_24))))))))))))) :=
 ⟨@iU.eq_2,@vV.eq_1,@vV.eq_2,@tZ.eq_1,@tZ.eq_2,@tupA.eq_1,@aJw,@aHR,@pE.eq_1,@pE.eq_2,@opds.eq_2,@opds.eq_13,@opds.eq_14,@opds.eq_24⟩
theorem UN8:type_of% (AI @evOp.eq_1 (AI @fQ.eq_1 (AI @one.eq_1 (AI @two.eq_1 (AI @wB.eq_1 @aH2))))) :=
 ⟨@evOp.eq_1,@fQ.eq_1,@one.eq_1,@two.eq_1,@wB.eq_1,@aH2⟩
theorem UN9:type_of% (AI @aNew.eq_1 (AI @vG.eq_4 (AI @sT.eq_1 @GF.eq_1))) :=
 ⟨@aNew.eq_1,@vG.eq_4,@sT.eq_1,@GF.eq_1⟩
theorem UN10:type_of% (AI @back.eq_1 (AI @bG.eq_1 (AI @bG.eq_2 (AI @aG.eq_1 (AI @closed.eq_1 (AI @gT.eq_1 @aZ.eq_1)))))) :=
 ⟨@back.eq_1,@bG.eq_1,@bG.eq_2,@aG.eq_1,@closed.eq_1,@gT.eq_1,@aZ.eq_1⟩
theorem UN11:type_of% (AI @aZ.eq_2 (AI @aJJ (AI @aHQ (AI @aIF (AI @aI5 (AI @aI3 (AI @aJ.eq_2 (AI @pack.eq_1 (AI @mapO.eq_1 (AI @aJE (AI @aJd (AI @aJe (AI @aJh (AI @bF.eq_1 (AI @frzA.eq_1 (AI @aHY (AI @aIj (AI @aJi @eZ.eq_1)))))))))))))))))) :=
 ⟨@aZ.eq_2,@aJJ,@aHQ,@aIF,@aI5,@aI3,@aJ.eq_2,@pack.eq_1,@mapO.eq_1,@aJE,@aJd,@aJe,@aJh,@bF.eq_1,@frzA.eq_1,@aHY,@aIj,@aJi,@eZ.eq_1⟩
theorem UN12:type_of% (AI @eZ.eq_2 (AI @memD.eq_1 (AI @D9.eq_1 (AI @iD.eq_1 @g6.eq_3)))) :=
 ⟨@eZ.eq_2,@memD.eq_1,@D9.eq_1,@iD.eq_1,@g6.eq_3⟩
theorem UN:type_of% (AI @UN0 (AI @UN1 (AI @UN2 (AI @UN3 (AI @UN4 (AI @UN5 (AI @UN6 (AI @UN7 (AI @UN8 (AI @UN9 (AI @UN10 (AI @UN11 @UN12)))))))))))) :=
 ⟨@UN0,@UN1,@UN2,@UN3,@UN4,@UN5,@UN6,@UN7,@UN8,@UN9,@UN10,@UN11,@UN12⟩
theorem aLo:type_of% (@bH.eq_5 Go.Code.skip (by nofun) (by nofun) (by nofun) (by nofun)):=(@bH.eq_5 Go.Code.skip (by nofun) (by nofun) (by nofun) (by nofun))
theorem aLp:type_of% (fun v0 v1 v2 => @bH.eq_5 (Go.Code.region v0 v1 v2) (by nofun) (by nofun) (by nofun) (by nofun)):=(fun v0 v1 v2 => @bH.eq_5 (Go.Code.region v0 v1 v2) (by nofun) (by nofun) (by nofun) (by nofun))
theorem aLf:type_of% (fun v0 => @bH.eq_5 (Go.Code.exit v0) (by nofun) (by nofun) (by nofun) (by nofun)):=(fun v0 => @bH.eq_5 (Go.Code.exit v0) (by nofun) (by nofun) (by nofun) (by nofun))
theorem aIw:type_of% (@bH.eq_5 Go.Code.ret (by nofun) (by nofun) (by nofun) (by nofun)):=(@bH.eq_5 Go.Code.ret (by nofun) (by nofun) (by nofun) (by nofun))
theorem SLM0:type_of% (AI @Option.getD_some.{0} (AI @List.length_nil.{0} (AI @Nat.add_zero (AI @Nat.zero_add (AI @List.map_cons.{0,0} (AI @List.map_nil.{0,0} (AI @List.getElem?_cons_zero.{0} (AI @List.getElem?_cons_succ.{0} (AI @Option.bind_some.{0,0} (AI @Bool.false_eq_true (AI @List.length_cons.{0} (AI @List.replicate.eq_1.{0} (AI @List.replicate.eq_2.{0} (AI @List.cons_append.{0} (AI @List.nil_append.{0} (AI @List.append_nil.{0} (AI @List.getD_cons_zero.{0} (AI @List.getD_cons_succ.{0} (AI @aQ.eq_1 (AI @a7.eq_1 (AI @lpOf.eq_1 (AI @aL.eq_1 (AI @slim.eq_1 (AI @slim.eq_2 (AI @slim.eq_3 (AI @slim.eq_4 (AI @slim.eq_5 (AI @slim.eq_6 (AI @slim.eq_7 (AI @slim.eq_8 (AI @bH.eq_1 (AI @bH.eq_2 @bH.eq_3)))))))))))))))))))))))))))))))) :=
 ⟨@Option.getD_some.{0},@List.length_nil.{0},@Nat.add_zero,@Nat.zero_add,@List.map_cons.{0,0},@List.map_nil.{0,0},@List.getElem?_cons_zero.{0},@List.getElem?_cons_succ.{0},@Option.bind_some.{0,0},@Bool.false_eq_true,@List.length_cons.{0},@List.replicate.eq_1.{0},@List.replicate.eq_2.{0},@List.cons_append.{0},@List.nil_append.{0},@List.append_nil.{0},@List.getD_cons_zero.{0},@List.getD_cons_succ.{0},@aQ.eq_1,@a7.eq_1,@lpOf.eq_1,@aL.eq_1,@slim.eq_1,@slim.eq_2,@slim.eq_3,@slim.eq_4,@slim.eq_5,@slim.eq_6,@slim.eq_7,@slim.eq_8,@bH.eq_1,@bH.eq_2,@bH.eq_3⟩
theorem SLM1:type_of% (AI @bH.eq_4 (AI @aLo (AI @aLp (AI @aLf (AI @aIw (AI @zI.eq_1 (AI @EL.eq_1 @EL.eq_2))))))) :=
 ⟨@bH.eq_4,@aLo,@aLp,@aLf,@aIw,@zI.eq_1,@EL.eq_1,@EL.eq_2⟩
theorem SLM:type_of% (AI @SLM0 @SLM1) :=
 ⟨@SLM0,@SLM1⟩
theorem LN:type_of% (AI @List.length_append.{0} (AI @List.length_cons.{0} (AI @List.length_nil.{0} (AI @List.length_set.{0} (AI @List.length_replicate.{0} (AI @List.length_map.{0,0} (AI @List.length_take.{0} @List.length_drop.{0}))))))) :=
 ⟨@List.length_append.{0},@List.length_cons.{0},@List.length_nil.{0},@List.length_set.{0},@List.length_replicate.{0},@List.length_map.{0,0},@List.length_take.{0},@List.length_drop.{0}⟩
theorem GT:type_of% (AI @List.getElem?_cons_zero.{0} @List.getElem?_cons_succ.{0}) :=
 ⟨@List.getElem?_cons_zero.{0},@List.getElem?_cons_succ.{0}⟩
end Ev
end Go.Proofs.YtejmccgfigiadaaGreat
