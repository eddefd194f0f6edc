/-
  The evaluator in the form in which it is walked: what comes after is handed over; code without what is not looked at.
-/
import Derived.Test.YtppdfjdfjfoddaaDoorEvDraw
import Derived.Test.YtppdfjdfjfoddaaDoorEvDef
import Derived.Lib.TrailingZeros
namespace Go.Proofs.YtppdfjdfjfoddaaDoor
namespace Ev
section
structure SO where
 dst:Option Tmp
 op:Op
 guard:Option (Option Tmp × Bool)
inductive SC where
 | skip
 | ops (l:List SO)
 | drawn (l:List SO) (src:Array Oper)
 | seq (a b:SC)
 | cond (c:Operand) (x y:SC)
 | block (id:Nat) (c:SC)
 | loop (i:Nat)
 | exit (id:Nat)
 | ret
 | bad
def ME (ops:List Oper):Option (Nat × Bool) → Option (Option Tmp × Bool)
 | none => none
 | some (j,w) => some ((ops[j]?).bind (·.dst),w)
def GK (ops:List Oper) (o:Oper):SO:=⟨o.dst,o.op,ME ops o.guard⟩
def bU:Code → List Code
 | .seq a b => bU a ++ bU b
 | .cond _ x y => bU x ++ bU y
 | .block _ c => bU c
 | .loop c => c :: bU c
 | _ => []
def slim (i:Nat):Code → SC
 | .skip => .skip
 | .region _ ops draw => if draw then .drawn (ops.toList.map (GK ops.toList)) ops else .ops (ops.toList.map (GK ops.toList))
 | .seq a b => .seq (slim i a) (slim (i + (bU a).length) b)
 | .cond c x y => .cond c (slim i x) (slim (i + (bU x).length) y)
 | .block id c => .block id (slim i c)
 | .loop _ => .loop i
 | .exit id => .exit id
 | .ret => .ret
 | _ => .bad
def aP:Code → Bool
 | .region _ ops draw => !draw || Region.lexB .any ops
 | .seq a b => aP a && aP b
 | .cond _ x y => aP x && aP y
 | .block _ c => aP c
 | .loop c => aP c
 | _ => true
section
variable {R:Type}
def kv (s:List A) (x:Operand) (k:A → Option R):Option R :=
 match dG s x with
 | some a => k a
 | none => none
def kvs (s:List A) (xs:List Operand) (k:List A → Option R):Option R :=
 match b6 s xs with
 | some vs => k vs
 | none => none
def gC (dst : Option Tmp) (op : Op) : Oper := ⟨dst, op, 0, "", #[], none⟩
def kOp (E:Env) (call:a7) (thaw:List Nat) (dst:Option Tmp) (op:Op) (s:List A) (h:H) (k:A → H → Option R):Option R :=
 kvs s (opds op) fun vs =>
  if bV op then
   match kV E call thaw h (gC dst op) vs with
   | some (a,h',_) => k a h'
   | none => none
  else match evOp E call thaw h (gC dst op) vs with
   | some (a,h') => k a h'
   | none => none
def vT (g:Option (Option Tmp × Bool)) (s:List A) (yes:List A → Option R) (no:List A → Option R):Option R :=
 match g with
 | none => yes s
 | some (none,_) => none
 | some (some t,w) => match s[t]? with
  | some (.d (.bool b)) => if b = w then yes (s.set t (.d (.bool w))) else no (s.set t (.d (.bool (!w))))
  | some (.d .undef) => no s
  | _ => none
def kOps (E:Env) (call:a7) (thaw:List Nat):List SO → List A → H → (List A → H → Option R) → Option R
 | [],s,h,k => k s h
 | ⟨dst,op,g⟩ :: os,s,h,k => vT g s
  (fun s => kOp E call thaw dst op s h fun a h' => kOps E call thaw os (aPut s dst a) h' k)
  (fun s => kOps E call thaw os (aPut s dst (.d .undef)) h k)
def kOpD (E:Env) (call:a7) (thaw:List Nat) (dst:Option Tmp) (op:Op) (s:List A) (h:H) (k:A → H → Foot → Option R):Option R :=
 kvs s (opds op) fun vs =>
  if cN op then
   match evOp E call thaw h (gC dst op) vs with
   | some (a,_) => k a h {}
   | none => none
  else if m9 op then
   match evOp E call thaw h (gC dst op) vs with
   | some (a,_) => k a h { ids:=ids0 vs,ro:=true }
   | none => none
  else match kV E call thaw h (gC dst op) vs with
   | some (a,h',ord,n) => if fN E op vs && n == 0 then k a h { ids:=ord,ro:=true } else k a h' { ids:=ord ++ List.range' h.length n,ro:=false,wr:=wrOf E op vs ord ++ List.range' h.length n }
   | none => none
def wI (E:Env) (call:a7) (thaw:List Nat):List SO → List A → H → List Foot → (List A → H → List Foot → Option R) → Option R
 | [],s,h,cs,k => k s h cs
 | ⟨dst,op,g⟩ :: os,s,h,cs,k => vT g s
  (fun s => kOpD E call thaw dst op s h fun a h' c => wI E call thaw os (aPut s dst a) h' (cs ++ [c]) k)
  (fun s => wI E call thaw os (aPut s dst (.d .undef)) h (cs ++ [{}]) k)
def aU (E:Env) (call:a7) (L nf:Nat) (thaw:List Nat) (live:List Bool) (c:Code) (m:List Bool) (n:Nat) (s:List A) (h:H) (k:Exit → List A → H → Option R):Option R :=
 match tF (dD E call L nf thaw live c) nf m n s h with
 | some (e,s',h') => k e s' h'
 | none => none
def aN (E:Env) (call:a7) (L nf:Nat) (thaw:List Nat) (live:List Bool) (lp:Nat → Code):SC → List A → H → (Exit → List A → H → Option R) → Option R
 | .skip,s,h,k => k .normal s h
 | .ops l,s,h,k => kOps E call thaw l s h fun s h => k .normal s h
 | .drawn l src,s,h,k => wI E call thaw l s h [] fun s h cs => if qK src.toList cs then k .normal s h else none
 | .seq a b,s,h,k => aN E call L nf thaw live lp a s h fun e s h => match e with
  | .normal => aN E call L nf thaw live lp b s h k
  | e => k e s h
 | .cond c x y,s,h,k => kv s c fun a => match a with
  | .d (.bool b) => if b = true then aN E call L nf thaw live lp x s h k else aN E call L nf thaw live lp y s h k
  | _ => none
 | .block id c,s,h,k => aN E call L nf thaw live lp c s h fun e s h => match e with
  | .exit i => if i = id then k .normal s h else k (.exit i) s h
  | e => k e s h
 | .loop i,s,h,k => aU E call L nf thaw live (lp i) (pO live s) L (gc nf (pO live s) s h).1 (gc nf (pO live s) s h).2 k
 | .exit id,s,h,k => k (.exit id) s h
 | .ret,s,h,k => k .ret s h
 | .bad,_,_,_ => none
theorem aCm {E:Env} {call:a7} {thaw:List Nat} {h:H} (o:Oper) (vs:List A):evOp E call thaw h (gC o.dst o.op) vs = evOp E call thaw h o vs:=by
 obtain ⟨dst,op,type,pos,after,guard⟩:=o
 cases op <;> rfl
theorem aGp {E:Env} {call:a7} {thaw:List Nat} {h:H} (o:Oper) (vs:List A):kV E call thaw h (gC o.dst o.op) vs = kV E call thaw h o vs:=by
 unfold kV
 simp only [aCm]
theorem aNr {s:List A} {t:Nat} {a:A} (h:s[t]? = some a):s.set t a = s:=by
 apply List.ext_getElem?
 intro j
 rw [List.getElem?_set]
 obtain ⟨hl,he⟩:=List.getElem?_eq_some_iff.1 h
 by_cases e:t = j
 ·subst e; simp [hl,he]
 ·simp [e]
theorem aHc {ops:List Oper} {o:Oper} {s:List A} {yes no:List A → Option R}:vT (ME ops o.guard) s yes no = match sR ops s o with
  | some true => yes s
  | some false => no s
  | none => none:=by
 unfold sR
 cases hg:o.guard with
 | none => simp [ME,vT]
 | some jw =>
  obtain ⟨j,w⟩:=jw
  simp only [ME,vT]
  cases hd:(ops[j]?).bind (·.dst) with
  | none => rfl
  | some t =>
   simp only []
   cases ht:s[t]? with
   | none => rfl
   | some a =>
    cases a with
    | d x =>
     cases x with
     | bool b =>
      simp only []
      cases b <;> cases w <;> simp [aNr ht]
     | _ => rfl
    | _ => rfl
theorem VT {E:Env} {call:a7} {thaw:List Nat} {ops:List Oper}:∀ (os:List Oper) (s:List A) (h:H) (k:List A → H → Option R),
  kOps E call thaw (os.map (GK ops)) s h k = match wO E call thaw ops os s h with
   | some (s',h') => k s' h'
   | none => none
 | [],s,h,k => by simp [kOps,wO]
 | o :: os,s,h,k => by
  simp only [List.map_cons,GK,kOps,aHc,wO,D4]
  cases sR ops s o with
  | none => rfl
  | some b =>
   cases b with
   | false => simp only []; exact VT os _ _ _
   | true =>
    simp only [kOp,kvs,aGp,aCm]
    cases b6 s (opds o.op) with
    | none => rfl
    | some vs =>
     simp only []
     cases hc:bV o.op with
     | true =>
      simp only [if_true]
      cases kV E call thaw h o vs with
      | none => rfl
      | some r => simp only []; exact VT os _ _ _
     | false =>
      simp only [Bool.false_eq_true,if_false]
      cases evOp E call thaw h o vs with
      | none => rfl
      | some r => simp only []; exact VT os _ _ _
theorem aFx {E:Env} {call:a7} {thaw:List Nat} {ops:List Oper}:∀ (os:List Oper) (s:List A) (h:H) (cs:List Foot) (k:List A → H → List Foot → Option R),
  wI E call thaw (os.map (GK ops)) s h cs k = match nI E call thaw ops os s h with
   | some (s',h',cs') => k s' h' (cs ++ cs')
   | none => none
 | [],s,h,cs,k => by simp [wI,nI]
 | o :: os,s,h,cs,k => by
  have fin:∀ (s1:List A) (h1:H) (c:Foot),wI E call thaw (os.map (GK ops)) s1 h1 (cs ++ [c]) k = match (match nI E call thaw ops os s1 h1 with
    | some (s2,h2,cs) => some (s2,h2,c :: cs)
    | none => none) with
   | some (s',h',cs') => k s' h' (cs ++ cs')
   | none => none:=by
   intro s1 h1 c
   rw [aFx os]
   cases nI E call thaw ops os s1 h1 with
   | none => rfl
   | some r => simp
  simp only [List.map_cons,GK,wI,aHc,nI,yC]
  cases sR ops s o with
  | none => rfl
  | some b =>
   cases b with
   | false => simp only []; exact fin _ _ _
   | true =>
    simp only [kOpD,kvs,aGp,aCm]
    cases b6 s (opds o.op) with
    | none => rfl
    | some vs =>
     simp only []
     cases hc:cN o.op with
     | true =>
      simp only [if_true]
      cases evOp E call thaw h o vs with
      | none => rfl
      | some r => simp only []; exact fin _ _ _
     | false =>
      simp only [Bool.false_eq_true,if_false]
      cases hsh:m9 o.op with
      | true =>
       simp only [if_true]
       cases evOp E call thaw h o vs with
       | none => rfl
       | some r => simp only []; exact fin _ _ _
      | false =>
      simp only [Bool.false_eq_true,if_false]
      cases kV E call thaw h o vs with
      | none => rfl
      | some r =>
       obtain ⟨a,h',ord,n⟩:=r
       simp only []
       cases hr:(fN E o.op vs && n == 0) with
       | true => simp only [if_true]; exact fin _ _ _
       | false => simp only [Bool.false_eq_true,if_false]; exact fin _ _ _
theorem wV {E:Env} {call:a7} {L nf:Nat} {thaw:List Nat} {live:List Bool} {lp:Nat → Code}:∀ (c:Code) (i:Nat) (s:List A) (h:H) (k:Exit → List A → H → Option R),aP c = true → (∀ (j:Nat) (b:Code),(bU c)[j]? = some b → lp (i + j) = b) →
  aN E call L nf thaw live lp (slim i c) s h k = match dD E call L nf thaw live c s h with
   | some (e,s',h') => k e s' h'
   | none => none
 | .skip,i,s,h,k,_,_ => rfl
 | .region id ops draw,i,s,h,k,hd,_ => by
  cases draw with
  | false =>
   simp only [slim,aN,dD,n8,Bool.false_eq_true,if_false,VT]
   cases wO E call thaw ops.toList ops.toList s h <;> rfl
  | true =>
   simp only [aP,Bool.not_true,Bool.false_or] at hd
   simp only [slim,aN,dD,n8,if_true,aFx,hd,Bool.true_and]
   cases nI E call thaw ops.toList ops.toList s h with
   | none => rfl
   | some r =>
    obtain ⟨s',h',cs⟩:=r
    simp only [List.nil_append]
    by_cases hcf:qK ops.toList cs = true
    ·simp [hcf]
    ·simp [hcf]
 | .seq a b,i,s,h,k,hd,hl => by
  simp only [aP,Bool.and_eq_true] at hd
  simp only [slim,aN,dD]
  rw [wV a i s h _ hd.1 fun j c hj => hl j c (by simp only [bU]; rw [List.getElem?_append_left (List.getElem?_eq_some_iff.1 hj).1]; exact hj)]
  have hb:∀ (j:Nat) (c:Code),(bU b)[j]? = some c → lp (i + (bU a).length + j) = c:=fun j c hj => by
   rw [show i + (bU a).length + j = i + ((bU a).length + j) from by omega]
   exact hl _ c (by simp only [bU]; rw [List.getElem?_append_right (by omega)]; simpa using hj)
  cases hea:dD E call L nf thaw live a s h with
  | none => rfl
  | some r =>
   obtain ⟨e,s1,h1⟩:=r
   cases e <;> simp only [] <;> first | exact wV b _ s1 h1 k hd.2 hb | rfl
 | .cond c x y,i,s,h,k,hd,hl => by
  simp only [aP,Bool.and_eq_true] at hd
  simp only [slim,aN,dD,kv]
  have hx:=wV (E:=E) (call:=call) (L:=L) (nf:=nf) (thaw:=thaw) (live:=live) x i s h k hd.1 fun j c hj => hl j c (by simp only [bU]; rw [List.getElem?_append_left (List.getElem?_eq_some_iff.1 hj).1]; exact hj)
  have hy:=wV (E:=E) (call:=call) (L:=L) (nf:=nf) (thaw:=thaw) (live:=live) y (i + (bU x).length) s h k hd.2 fun j c hj => by
   rw [show i + (bU x).length + j = i + ((bU x).length + j) from by omega]
   exact hl _ c (by simp only [bU]; rw [List.getElem?_append_right (by omega)]; simpa using hj)
  generalize dG s c = z
  cases z with
  | none => rfl
  | some a =>
   cases a with
   | d v =>
    cases v with
    | bool b => cases b <;> simp [hx,hy]
    | _ => rfl
   | _ => rfl
 | .block id c,i,s,h,k,hd,hl => by
  simp only [aP] at hd
  simp only [slim,aN,dD]
  rw [wV c i s h _ hd hl]
  cases hec:dD E call L nf thaw live c s h with
  | none => rfl
  | some r =>
   obtain ⟨e,s1,h1⟩:=r
   cases e <;> simp only [] <;> first | rfl | (split <;> rfl)
 | .loop c,i,s,h,k,hd,hl => by
  have:=hl 0 c (by simp [bU])
  simp only [Nat.add_zero] at this
  simp only [slim,aN,dD,aU,this]
 | .exit id,i,s,h,k,_,_ => rfl
 | .ret,i,s,h,k,_,_ => rfl
 | .rangeFunc _ _ _ _,i,s,h,k,_,_ => rfl
 | .scope _,i,s,h,k,_,_ => rfl
 | .label _,i,s,h,k,_,_ => rfl
 | .goto _,i,s,h,k,_,_ => rfl
 | .refuse _,i,s,h,k,_,_ => rfl
theorem aNM:∀ (c:Code) (i:Nat) (b:Code),(bU c)[i]? = some b → (aP c = true → aP b = true) ∧ ∀ (j:Nat) (d:Code),(bU b)[j]? = some d → (bU c)[i + 1 + j]? = some d:=by
 intro c
 induction c with
 | seq a b iha ihb =>
  intro i d hi
  simp only [bU] at hi ⊢
  simp only [aP,Bool.and_eq_true]
  by_cases hlt:i < (bU a).length
  ·rw [List.getElem?_append_left hlt] at hi
   obtain ⟨h1,h2⟩:=iha i d hi
   refine ⟨fun h => h1 h.1,fun j e he => ?_⟩
   have:=h2 j e he
   rw [List.getElem?_append_left (List.getElem?_eq_some_iff.1 this).1]
   exact this
  ·rw [List.getElem?_append_right (by omega)] at hi
   obtain ⟨h1,h2⟩:=ihb _ d hi
   refine ⟨fun h => h1 h.2,fun j e he => ?_⟩
   have:=h2 j e he
   rw [List.getElem?_append_right (by omega)]
   rw [show i + 1 + j - (bU a).length = i - (bU a).length + 1 + j from by omega]
   exact this
 | cond c a b iha ihb =>
  intro i d hi
  simp only [bU] at hi ⊢
  simp only [aP,Bool.and_eq_true]
  by_cases hlt:i < (bU a).length
  ·rw [List.getElem?_append_left hlt] at hi
   obtain ⟨h1,h2⟩:=iha i d hi
   refine ⟨fun h => h1 h.1,fun j e he => ?_⟩
   have:=h2 j e he
   rw [List.getElem?_append_left (List.getElem?_eq_some_iff.1 this).1]
   exact this
  ·rw [List.getElem?_append_right (by omega)] at hi
   obtain ⟨h1,h2⟩:=ihb _ d hi
   refine ⟨fun h => h1 h.2,fun j e he => ?_⟩
   have:=h2 j e he
   rw [List.getElem?_append_right (by omega)]
   rw [show i + 1 + j - (bU a).length = i - (bU a).length + 1 + j from by omega]
   exact this
 | block id c ih => intro i d hi; simp only [bU,aP] at hi ⊢; exact ih i d hi
 | loop c ih =>
  intro i d hi
  simp only [bU,aP] at hi ⊢
  cases i with
  | zero =>
   simp only [List.getElem?_cons_zero,Option.some.injEq] at hi
   subst hi
   exact ⟨id,fun j e he => by rw [show 0 + 1 + j = j + 1 from by omega]; simpa using he⟩
  | succ i =>
   simp only [List.getElem?_cons_succ] at hi
   obtain ⟨h1,h2⟩:=ih i d hi
   exact ⟨h1,fun j e he => by rw [show i + 1 + 1 + j = (i + 1 + j) + 1 from by omega]; simpa using h2 j e he⟩
 | _ => intro i d hi; simp [bU] at hi
def aY (fn:Func):Code:=fn.body.getD .skip
def lpOf (fn:Func) (i:Nat):Code:=(bU (aY fn)).getD i .skip
def dT (fn:Func) (i:Nat):SC:=slim (i + 1) (lpOf fn i)
def bP (fn:Func):SC:=slim 0 (aY fn)
def dS (E:Env) (call:a7) (L nf:Nat) (thaw:List Nat) (live:List Bool) (c:Code) (m:List Bool) (n:Nat) (k:Exit → List A → H → Option R) (e:Exit) (s:List A) (h:H):Option R :=
 match e with
 | .normal => aU E call L nf thaw live c m n (gc nf m s h).1 (gc nf m s h).2 k
 | e => k e (gc nf m s h).1 (gc nf m s h).2
theorem a8 {E:Env} {call:a7} {L nf:Nat} {thaw:List Nat} {live:List Bool} {fn:Func} (hd:aP (aY fn) = true) {i:Nat} (hi:((bU (aY fn))[i]?).isSome = true) {m:List Bool} {n:Nat} {s:List A} {h:H} {k:Exit → List A → H → Option R} :
  aU E call L nf thaw live (lpOf fn i) m (n + 1) s h k = aN E call L nf thaw live (lpOf fn) (dT fn i) s h (dS E call L nf thaw live (lpOf fn i) m n k):=by
 obtain ⟨b,hb⟩:=Option.isSome_iff_exists.1 hi
 have hlp:∀ (j:Nat) (d:Code),(bU (aY fn))[j]? = some d → lpOf fn j = d:=fun j d hj => by
  unfold lpOf; rw [List.getD_eq_getElem?_getD,hj]; rfl
 have hbe:=hlp i b hb
 obtain ⟨h1,h2⟩:=aNM _ i b hb
 unfold dT
 rw [hbe,wV b (i + 1) s h _ (h1 hd) fun j d hj => hlp _ d (h2 j d hj)]
 unfold aU
 simp only [tF]
 cases hev:dD E call L nf thaw live b s h with
 | none => rfl
 | some r =>
  obtain ⟨e,s1,h1⟩:=r
  cases e <;> rfl
def kFin (P:Program) (nf:Nat) (exp:Bool) (rs:List ResultVar) (e:Exit) (s:List A) (h:H):Option (A × H) :=
 if iX e then
  match oA P s h rs with
  | some rs => match rK nf exp h rs with
   | some (xs,h2) =>
    let r:=trim nf h2 (fI nf h2 (idsL xs)) xs
    some (tupA r.1,r.2)
   | none => none
  | none => none
 else none
theorem aRW {E : Env} {L n : Nat} {f : FuncId} {fn : Func} {args : List A} {h : H} (hp : (E.prim f).isNone = true) (hf : E.P.funcs[f]? = some fn) (hb : fn.body.isSome = true) (hn : (fn.name == "runtime.NumGoroutine") = false) (hd : aP (aY fn) = true) :
  aA E L (n + 1) f args h = aN E (aA E L n) L h.length (E.hint f).thaw (E.hint f).live (lpOf fn) (bP fn) (args ++ List.replicate (fn.ntmps - args.length) (.d .undef)) h (kFin E.P h.length (E.hint f).exp fn.results.toList):=by
 have hp:E.prim f = none:=by simpa using hp
 obtain ⟨c,hc⟩:=Option.isSome_iff_exists.1 hb
 have hce:aY fn = c:=by simp [aY,hc]
 rw [hce] at hd
 unfold bP
 rw [hce,wV c 0 _ _ _ hd fun j d hj => by unfold lpOf; rw [hce,Nat.zero_add,List.getD_eq_getElem?_getD,hj]; rfl]
 simp only [aA,hp,hf,hc,hn,Bool.false_eq_true,if_false,IG]
 cases dD E (aA E L n) L h.length (E.hint f).thaw (E.hint f).live c (args ++ List.replicate (fn.ntmps - args.length) (.d .undef)) h with
 | none => rfl
 | some r => rfl
theorem bI {E : Env} {L n : Nat} {f : FuncId} {fn : Func} {args : List A} {h : H} {mode : Nat} {exp : Bool} {thaw : List Nat} {live : List Bool} {rs : List ResultVar} (hp : (E.prim f).isNone = true) (hf : E.P.funcs[f]? = some fn) (hb : fn.body.isSome = true) (hn : (fn.name == "runtime.NumGoroutine") = false) (hd : aP (aY fn) = true) (hh : E.hint f = ⟨mode, exp, thaw, live⟩) (hr : fn.results.toList = rs) :
  aA E L (n + 1) f args h = aN E (aA E L n) L h.length thaw live (lpOf fn) (bP fn) (args ++ List.replicate (fn.ntmps - args.length) (.d .undef)) h (kFin E.P h.length exp rs):=by
 rw [aRW hp hf hb hn hd,hh,hr]
end
abbrev Y1 (l:List A):List A:=.junk :: l
abbrev Y2 (l:List A):List A:=.junk :: .junk :: l
abbrev Y4 (l:List A):List A:=.junk :: .junk :: .junk :: .junk :: l
abbrev Y8 (l:List A):List A:=.junk :: .junk :: .junk :: .junk :: .junk :: .junk :: .junk :: .junk :: l
abbrev Y16 (l:List A):List A:=Y8 (Y8 l)
abbrev Y32 (l:List A):List A:=Y16 (Y16 l)
abbrev U1 (l:List Bool):List Bool:=true :: l
abbrev U2 (l:List Bool):List Bool:=true :: true :: l
abbrev U4 (l:List Bool):List Bool:=true :: true :: true :: true :: l
abbrev U8 (l:List Bool):List Bool:=true :: true :: true :: true :: true :: true :: true :: true :: l
abbrev U16 (l:List Bool):List Bool:=U8 (U8 l)
abbrev U32 (l:List Bool):List Bool:=U16 (U16 l)
abbrev Z1 (l:List Bool):List Bool:=false :: l
abbrev Z2 (l:List Bool):List Bool:=false :: false :: l
abbrev Z4 (l:List Bool):List Bool:=false :: false :: false :: false :: l
abbrev Z8 (l:List Bool):List Bool:=false :: false :: false :: false :: false :: false :: false :: false :: l
abbrev Z16 (l:List Bool):List Bool:=Z8 (Z8 l)
abbrev Z32 (l:List Bool):List Bool:=Z16 (Z16 l)
end
def JY (esz:Nat) (args:List A) (h:H):Option (A × H):=match args with
 | [.d (.str _)] => none
 | [x] => match cX h esz x with
  | some (n,cs) => if n ≤ bW then some (.sl h.length 0 0 n,h ++ [.arr cs esz 0]) else none
  | none => none
 | _ => none
def gCtz:List A → H → Option (A × H):=fun args h => match args with
 | [.d (.int .u64 n)] => if 0 ≤ n ∧ n < 18446744073709551616 then some (.d (.int .i64 (Lib.ctz 64 n.toNat)),h) else none
 | _ => none
end Ev
end Go.Proofs.YtppdfjdfjfoddaaDoor
