/-
  A search for a goal, walked.
-/
import Derived.Test.YtejmccgfigiadaaGreatPathV
import Derived.Test.YtejmccgfigiadaaGreatSortLayX
import Derived.Test.YtejmccgfigiadaaGreatLeast
set_option linter.unusedSimpArgs false
set_option linter.unusedVariables false
set_option maxRecDepth 8000
set_option maxHeartbeats 4000000
namespace Go.Proofs.YtejmccgfigiadaaGreat
namespace Ev
theorem aWg {st:List PStep} {p l:Int} {f:List Int} {i:Nat} (h:i < st.length):(addP st p l f).getD i default = st.getD i default:=by
 unfold addP
 split
 ·rfl
 ·exact pT h
theorem aVo {nx:Int → Int → List Int} {l:Int}:flat nx [] l = []:=rfl
theorem aKX {nx:Int → Int → List Int} {n l:Int} {ns:List Int}:flat nx (n :: ns) l = nx n l ++ flat nx ns l:=rfl
theorem aNt {nx:Int → Int → List Int} {c:Int} (hw:∀ x c,(nx x c).length ≤ 64):∀ ns:List Int,(flat nx ns c).length ≤ 64 * ns.length
 | [] => by simp [flat]
 | x :: ns => by simp only [aKX,List.length_append,List.length_cons]; have:=hw x c; have:=aNt (c:=c) hw ns; omega
def ltI (nx:Int → Int → List Int) (gl:Int → Bool) (ns:List Int) (p:Int):List Int → List Bool × List PStep → Nat
 | [],_ => 0
 | l :: ls,q => if (visG gl (flat nx ns l) q.1 [] false).2.2 = true then 0 else ltI nx gl ns p ls ((visG gl (flat nx ns l) q.1 [] false).1,addP q.2 p l (visG gl (flat nx ns l) q.1 [] false).2.1) + 1
def outI (nx:Int → Int → List Int) (gl:Int → Bool) (ls:List Int):Nat → Nat → List Bool × List PStep → Nat
 | 0,i,_ => i
 | j + 1,i,q => if i < q.2.length then
   (if (ltG nx gl (q.2.getD i default).ns i ls q).1 = true then i
    else outI nx gl ls j (i + 1) (ltG nx gl (q.2.getD i default).ns i ls q).2)
  else i
def txt (w:List Int):List UInt8:=w.map dY
def RK (st:List PStep):List UInt8:=txt (k4 st st.length (st.length - 1))
theorem V3 {R:Type} {E:Env} {call:b5} {h:H} {f:FuncId} {args:List A} {len:Nat} {k:A → H → Option R} {id e g e2 g2:Nat} {cs cs2:List D} (hi:h[id]? = some (.arr cs e g)) (hid:idsL args = [id]) (hm:(E.hint f).mode = 0) (he:call f (aP (aH [id]) args) [.arr cs e g] = some (.sl 0 g2 0 len,[.arr cs2 e2 g2])) :
  aW E call h f args k = k (.sl id g2 0 len) (h.set id (.arr cs2 e2 g2)):=by
 have hre:aD aI h [id] [] = [id]:=by
  have e1:aD aI h [id] [] = match h[id]? with
   | some (.box cs) => aD (aI - 1) h ([] ++ idsL cs) ([] ++ [id])
   | some (.vec cs _ _) => aD (aI - 1) h ([] ++ idsL cs) ([] ++ [id])
   | some .void => aD (aI - 1) h [] []
   | some _ => aD (aI - 1) h [] ([] ++ [id])
   | none => aD (aI - 1) h [] []:=rfl
  rw [e1,hi]; rfl
 have hpk:pack h [id] = [.arr cs e g]:=by
  simp only [pack,List.map_cons,List.map_nil,List.getD_eq_getElem?_getD,hi]; rfl
 unfold aW
 rw [hid,hre,hpk]
 have hc:dX call E.hint [.arr cs e g] f (aP (aH [id]) args) = some (.sl 0 g2 0 len,[.arr cs2 e2 g2]):=by
  unfold dX; rw [hm]; exact he
 rw [hc]
 have hcl:closed h [id] [id] = true:=by
  simp only [closed,List.all_cons,List.all_nil,hi]; simp
 have hb:back [id] h.length 1 0 = some id:=rfl
 simp only [List.length_cons,List.length_nil,Nat.le_refl,hcl,and_self,if_true,mapA,Nat.zero_add,hb]
 simp only [bJ,mapO,List.map_nil,List.append_nil]
theorem aQh {R:Type} {L n:Nat} (hn:4 ≤ n) (hL:2 ^ 60 ≤ L) {I:Int → Prop} {nf:FuncId} {caps:List D} {gb:D} {size:Nat} {nx:Int → Int → List Int} {ls ns:List Int} {sc:List D} {seen:List Bool} {sn ii q:Nat} {c:Int}
  (kc_n:∀ {R:Type} {n id:Nat} {hq:H} {k:A → H → Option R} (x c:Int) (o:List Int),4 ≤ n → I x → 0 ≤ c → c < 6 → o.length ≤ 2147483648 → hq[id]? = some (.arr (ints o) 1 0) → aW env (aA env L n) hq nf (nI x :: nI c :: .sl id 0 0 o.length :: caps.map A.d) k = k (.sl id (nx x c).length 0 (o ++ nx x c).length) (hq.set id (.arr (ints (o ++ nx x c)) 1 (nx x c).length)))
  (hI:∀ x ∈ ns,I x) (hw:∀ x c,(nx x c).length ≤ 64) (hc0:0 ≤ c) (hc6:c < 6) (hnl:ns.length ≤ 16777216) {k:Exit → List A → H → Option R}:∀ (j i m:Nat) (o:List Int) (len:Nat) (hi:i + j = ns.length) (hm:j < m) (ho:o.length ≤ 64 * i) (hlen:len = o.length),
  aJ env (aA env L n) L 0 (W16 (W2 [2])) Bz2 (eU 2) (U2 (Z2 (U4 (U2 (Z2 (U1 (Z2 (Z1 (U1 (Z2 (U8 (U4 (U2 (Z2 (Z1 (U4 (U2 (U1 (Z2 (Z1 (U16 (U1 ([]))))))))))))))))))))))) m (Y2 (.d (.ivs ls.length (ints ls)) :: .d (.fn nf caps) :: Y4 (Y2 (.d (.str []) :: .d (.bool false) :: Y1 (.ptr 0 0 0 :: .clo 151 [.ptr 1 0 0,.ptr 2 0 0,.ptr 0 0 0] :: nI (ii:Int) :: Y1 (nI c :: .sl 3 0 0 len :: Y8 (Y4 (Y2 (.d (.ivs ls.length (ints ls)) :: nI (ls.length) :: nI (q:Int) :: Y4 (Y2 (Y1 (.d (.ivs ns.length (ints ns)) :: nI (ns.length) :: nI (i:Int) :: Y16 (Y1 ([])))))))))))))) [.box [.sl 4 0 0 sn],.box [.sl 5 0 0 size],.box [.d gb],.arr (ints o) 1 0,.arr sc 3 0,.arr (e6 seen) 1 0] k
  = k (.exit 4) (Y2 (.d (.ivs ls.length (ints ls)) :: .d (.fn nf caps) :: Y4 (Y2 (.d (.str []) :: .d (.bool false) :: Y1 (.ptr 0 0 0 :: .clo 151 [.ptr 1 0 0,.ptr 2 0 0,.ptr 0 0 0] :: nI (ii:Int) :: Y1 (nI c :: .sl 3 0 0 (o ++ flat nx (ns.drop i) c).length :: Y8 (Y4 (Y2 (.d (.ivs ls.length (ints ls)) :: nI (ls.length) :: nI (q:Int) :: Y4 (Y2 (Y1 (.d (.ivs ns.length (ints ns)) :: nI (ns.length) :: nI (ns.length) :: Y16 (Y1 ([])))))))))))))) [.box [.sl 4 0 0 sn],.box [.sl 5 0 0 size],.box [.d gb],.arr (ints (o ++ flat nx (ns.drop i) c)) 1 0,.arr sc 3 0,.arr (e6 seen) 1 0]:=by
 intro j
 induction j with
 | zero =>
  intro i m o len hi hm ho hlen
  obtain _ | m:=m; omega
  obtain rfl:i = ns.length:=by omega
  subst hlen
  rw [I4]
  simp only [DL,Tryz.f119,SLM,simprocAttr]
  simp -implicitDefEqProofs (maxSteps:=2000000) (disch:=try exact Dz) only [↓DN,↓kAsg,↓kRet,UP,simprocAttr,PE,Int.lt_irrefl]
  simp only [List.drop_length,aVo,List.append_nil,List.length_nil,Nat.add_zero]
 | succ j ih =>
  intro i m o len hi hm ho hlen
  obtain _ | m:=m; omega
  subst hlen
  have hc:(i:Int) < ns.length:=by omega
  have hk:i < ns.length:=by omega
  have hmem:ns.getD i 0 ∈ ns:=by rw [List.getD_eq_getElem?_getD,List.getElem?_eq_getElem hk]; exact List.getElem_mem hk
  have hIx:=hI _ hmem
  have hww:=hw (ns.getD i 0) c
  have hob:o.length ≤ 2147483648:=by omega
  have e4:((i + 1:Nat):Int) = (i:Int) + 1:=by omega
  have ih':=ih (i + 1) m (o ++ nx (ns.getD i 0) c) (o.length + (nx (ns.getD i 0) c).length) (by omega) (by omega) (by rw [List.length_append]; omega) (by rw [List.length_append])
  rw [e4] at ih'
  rw [dB hk (d:=0)]
  simp only [aKX,← List.append_assoc]
  have kc_m:=fun {R:Type} {n id:Nat} {hq:H} {k:A → H → Option R} (h4:4 ≤ n) (hg:hq[id]? = some (.arr (ints o) 1 0)) => @kc_n R n id hq k (ns.getD i 0) c o h4 hIx hc0 hc6 hob hg
  clear ih hmem kc_n
  generalize nx (ns.getD i 0) c = w at *
  rw [I4]
  simp only [DL,Tryz.f119,SLM,simprocAttr]
  simp -implicitDefEqProofs (maxSteps:=2000000) (disch:=try exact Dz) only [↓DN,↓kAsg,↓kRet,UP,simprocAttr,PE,hc,Int.toNat_natCast,↓kc_m,↓ih',List.length_append]
theorem aAR:∀ (ns:List Int) (s:List Bool) (f:List Int),f.length ≤ (visF ns s f).2.length
 | [],s,f => Nat.le_refl _
 | n :: ns,s,f => by
  unfold visF
  split
  ·exact aAR ns s f
  ·have:=aAR ns (s.set n.toNat true) (f ++ [n])
   simp only [List.length_append,List.length_cons,List.length_nil] at this
   omega
theorem aL7 {ns:List Int} {size:Nat} (h:ns ≠ []):0 < (visF ns (List.replicate size false) []).2.length:=by
 cases ns with
 | nil => exact absurd rfl h
 | cons n ns =>
  have e:(List.replicate size false).getD n.toNat false = false:=by
   rw [List.getD_eq_getElem?_getD,List.getElem?_replicate]
   split <;> rfl
  unfold visF
  rw [e]
  have:=aAR ns ((List.replicate size false).set n.toNat true) ([] ++ [n])
  simp only [List.length_append,List.length_cons,List.length_nil] at this
  simp only [Bool.false_eq_true,if_false]
  omega
theorem aYo {R:Type} {L n:Nat} {k:A → H → Option R} (hn:4 ≤ n) (hL:2 ^ 60 ≤ L) {I:Int → Prop} {gl:Int → Bool} {gf:FuncId} {caps:List D} {size:Nat} {p l:Int} {ns:List Int} (kc_g:∀ {R:Type} {n:Nat} {hq:H} {k:A → H → Option R} (x:Int),2 ≤ n → I x → aW env (aA env L n) hq gf (nI x :: caps.map A.d) k = k (.d (.bool (gl x))) hq) (hI:∀ x ∈ ns,I x) (hr:∀ x,I x → 0 ≤ x ∧ x < size) (hsz:size ≤ 4294967290) (hnl:ns.length ≤ 4294967290) (hne:ns ≠ []) :
  EQ env (aA env L n) [.box [.d (.fn gf caps)],.arr (e6 (List.replicate size false)) 1 0,.arr [] 0 0,.box [.sl 1 0 0 size],.arr [] 0 0,.box [.sl 4 0 0 0]] 151 [.ptr 3 0 0,.ptr 0 0 0,.ptr 5 0 0] [nI p,nI l,.d (.ivs ns.length (ints ns))] k
  = k (.d (.bool (visG gl ns (List.replicate size false) [] false).2.2)) [.box [.d (.fn gf caps)],.arr (e6 (visG gl ns (List.replicate size false) [] false).1) 1 0,.arr [] 0 0,.box [.sl 1 0 0 size],.arr (dE [⟨p,l,(visG gl ns (List.replicate size false) [] false).2.1⟩]) 3 1,.box [.sl 4 1 0 1]]:=by
 have he:=aX7 (gl:=gl) (p:=p) (l:=l) hn hL (fun {R n hq k} => kc_g) hI hr hsz hnl (List.replicate size false) (by simp) _ rfl (by have:=aL7 (size:=size) hne; rw [(DZ gl ns _ [] false).2]; omega)
 unfold EQ
 generalize List.replicate size false = sz at *
 generalize hh:[O.box [.d (.fn gf caps)],.arr (e6 sz) 1 0,.arr [] 0 0,.box [.sl 1 0 0 size],.arr [] 0 0,.box [.sl 4 0 0 0]] = h
 have hre:aD aI h (idsL [A.ptr 3 0 0,.ptr 0 0 0,.ptr 5 0 0] ++ idsL [A.d (.int .i64 p),nI l,.d (.ivs ns.length (ints ns))]) [] = [3,0,5,1,4]:=by subst hh; rfl
 have hpk:pack h [3,0,5,1,4] = [.box [.sl 3 0 0 size],.box [.d (.fn gf caps)],.box [.sl 4 0 0 0],.arr (e6 sz) 1 0,.arr [] 0 0]:=by subst hh; rfl
 have hma:aP (aH [3,0,5,1,4]) [A.d (.int .i64 p),nI l,.d (.ivs ns.length (ints ns))] ++ aP (aH [3,0,5,1,4]) [A.ptr 3 0 0,.ptr 0 0 0,.ptr 5 0 0] = [nI p,nI l,.d (.ivs ns.length (ints ns)),.ptr 0 0 0,.ptr 1 0 0,.ptr 2 0 0]:=rfl
 have hca:∀ h f args,dX (aA env L n) env.hint h f args = if (env.hint f).mode = 0 then aA env L n f args h else dX (aA env L n) env.hint h f args:=by
  intro h f args
  split
  ·rename_i hm
   unfold dX; rw [hm]; rfl
  ·rfl
 rw [hre,hpk,hma,hca,if_pos pV,he]
 have hcl:closed h [3,0,5,1,4] (idsL [A.ptr 3 0 0,.ptr 0 0 0,.ptr 5 0 0] ++ idsL [A.d (.int .i64 p),nI l,.d (.ivs ns.length (ints ns))]) = true:=by subst hh; rfl
 subst hh
 simp only [hcl,List.length_cons,List.length_nil,Nat.le_refl,and_self,if_true]
 rfl
def gV (r:List Bool × List Int × Bool):Nat:=if r.2.1 = [] then 0 else 1
theorem aYM {R:Type} {L n:Nat} {k:A → H → Option R} (hn:4 ≤ n) (hL:2 ^ 60 ≤ L) {I:Int → Prop} {gl:Int → Bool} {gf:FuncId} {caps:List D} {size:Nat} {p l:Int} {ns:List Int} (kc_g:∀ {R:Type} {n:Nat} {hq:H} {k:A → H → Option R} (x:Int),2 ≤ n → I x → aW env (aA env L n) hq gf (nI x :: caps.map A.d) k = k (.d (.bool (gl x))) hq) (hI:∀ x ∈ ns,I x) (hr:∀ x,I x → 0 ≤ x ∧ x < size) (hsz:size ≤ 4294967290) (hnl:ns.length ≤ 4294967290) (seen:List Bool) (hs:seen.length = size) (st:List PStep) (hst:st.length ≤ 4294967290) :
  EQ env (aA env L n) [.box [.sl 4 0 0 st.length],.box [.sl 5 0 0 size],.box [.d (.fn gf caps)],.arr (ints ns) 1 0,.arr (dE st) 3 0,.arr (e6 seen) 1 0] 151 [.ptr 1 0 0,.ptr 2 0 0,.ptr 0 0 0] [nI p,nI l,.sl 3 0 0 ns.length] k
  = k (.d (.bool (visG gl ns seen [] false).2.2)) [.box [.sl 4 (gV (visG gl ns seen [] false)) 0 (addP st p l (visG gl ns seen [] false).2.1).length],.box [.sl 5 0 0 size],.box [.d (.fn gf caps)],.arr (ints ns) 1 0,.arr (dE (addP st p l (visG gl ns seen [] false).2.1)) 3 (gV (visG gl ns seen [] false)),.arr (e6 (visG gl ns seen [] false).1) 1 0]:=by
 have he:=aYL (gl:=gl) (p:=p) (l:=l) hn hL (fun {R n hq k} => kc_g) hI hr hsz hnl seen hs st hst _ rfl
 unfold EQ
 generalize hh:[O.box [.sl 4 0 0 st.length],.box [.sl 5 0 0 size],.box [.d (.fn gf caps)],.arr (ints ns) 1 0,.arr (dE st) 3 0,.arr (e6 seen) 1 0] = h
 have hre:aD aI h (idsL [A.ptr 1 0 0,.ptr 2 0 0,.ptr 0 0 0] ++ idsL [A.d (.int .i64 p),nI l,.sl 3 0 0 ns.length]) [] = [1,2,0,3,5,4]:=by subst hh; rfl
 have hpk:pack h [1,2,0,3,5,4] = [.box [.sl 4 0 0 size],.box [.d (.fn gf caps)],.box [.sl 5 0 0 st.length],.arr (ints ns) 1 0,.arr (e6 seen) 1 0,.arr (dE st) 3 0]:=by subst hh; rfl
 have hma:aP (aH [1,2,0,3,5,4]) [A.d (.int .i64 p),nI l,.sl 3 0 0 ns.length] ++ aP (aH [1,2,0,3,5,4]) [A.ptr 1 0 0,.ptr 2 0 0,.ptr 0 0 0] = [nI p,nI l,.sl 3 0 0 ns.length,.ptr 0 0 0,.ptr 1 0 0,.ptr 2 0 0]:=rfl
 have hca:∀ h f args,dX (aA env L n) env.hint h f args = if (env.hint f).mode = 0 then aA env L n f args h else dX (aA env L n) env.hint h f args:=by
  intro h f args
  split
  ·rename_i hm
   unfold dX; rw [hm]; rfl
  ·rfl
 rw [hre,hpk,hma,hca,if_pos pV,he]
 have hcl:closed h [1,2,0,3,5,4] (idsL [A.ptr 1 0 0,.ptr 2 0 0,.ptr 0 0 0] ++ idsL [A.d (.int .i64 p),nI l,.sl 3 0 0 ns.length]) = true:=by subst hh; rfl
 subst hh
 simp only [hcl,List.length_cons,List.length_nil,Nat.le_refl,and_self,if_true]
 rfl
def chG (ls:List Int) (w:Str):List Str:=ls.map fun l => w ++ [dY l]
def lvG (ls:List Int):Nat → List Str
 | 0 => [[]]
 | k + 1 => (lvG ls k).flatMap (chG ls)
def midG (ls:List Int):Nat → List Str
 | 0 => [[]]
 | k + 1 => midG ls k ++ lvG ls (k + 1)
theorem aOX {ls:List Int} {w:Str}:(chG ls w).length = ls.length:=by simp [chG]
theorem aCx {ls:List Int}:∀ k,(lvG ls k).length = ls.length ^ k
 | 0 => rfl
 | k + 1 => by
  have e:∀ l:List Str,(l.flatMap (chG ls)).length = l.length * ls.length:=by
   intro l
   induction l with
   | nil => simp
   | cons a l ih => rw [List.flatMap_cons,List.length_append,ih,aOX,List.length_cons,Nat.add_mul]; omega
  show ((lvG ls k).flatMap (chG ls)).length = _
  rw [e,aCx k,Nat.pow_succ]
theorem OM {ls:List Int}:∀ k,∀ w ∈ lvG ls k,w.length = k ∧ ∀ b ∈ w,∃ l ∈ ls,b = dY l
 | 0,w,h => by
  obtain rfl:w = []:=by simpa [lvG] using h
  exact ⟨rfl,by simp⟩
 | k + 1,w,h => by
  obtain ⟨v,hv,hw⟩:=List.mem_flatMap.1 h
  obtain ⟨l,hl,rfl⟩:=List.mem_map.1 hw
  obtain ⟨h1,h2⟩:=OM k v hv
  refine ⟨by simp [h1],fun b hb => ?_⟩
  rcases List.mem_append.1 hb with hb | hb
  ·exact h2 b hb
  ·exact ⟨l,hl,by simpa using hb⟩
theorem aI4 {ls:List Int}:∀ k,∀ w ∈ midG ls k,w.length ≤ k ∧ ∀ b ∈ w,∃ l ∈ ls,b = dY l
 | 0,w,h => by
  obtain rfl:w = []:=by simpa [midG] using h
  exact ⟨Nat.le_refl _,by simp⟩
 | k + 1,w,h => by
  rcases List.mem_append.1 h with h | h
  ·obtain ⟨h1,h2⟩:=aI4 k w h
   exact ⟨by omega,h2⟩
  ·obtain ⟨h1,h2⟩:=OM (k + 1) w h
   exact ⟨by omega,h2⟩
theorem aSL {ls:List Int}:∀ k,∃ p,midG ls k = p ++ lvG ls k
 | 0 => ⟨[],rfl⟩
 | k + 1 => ⟨midG ls k,rfl⟩
theorem MU {ls:List Int} (hl:ls.length ≤ 6):∀ k,k ≤ 3 → (midG ls k).length ≤ 259:=by
 have h1:ls.length ^ 1 ≤ 6 ^ 1:=Nat.pow_le_pow_left hl 1
 have h2:ls.length ^ 2 ≤ 6 ^ 2:=Nat.pow_le_pow_left hl 2
 have h3:ls.length ^ 3 ≤ 6 ^ 3:=Nat.pow_le_pow_left hl 3
 intro k hk
 rcases (show k = 0 ∨ k = 1 ∨ k = 2 ∨ k = 3 by omega) with rfl | rfl | rfl | rfl
 ·simp [midG]
 ·simp only [midG,List.length_append,aCx,List.length_singleton,Nat.zero_add,Nat.reduceAdd]; omega
 ·simp only [midG,List.length_append,aCx,List.length_singleton,Nat.zero_add,Nat.reduceAdd]; omega
 ·simp only [midG,List.length_append,aCx,List.length_singleton,Nat.zero_add,Nat.reduceAdd]; omega
def insW (ws:List Str) (w:Str):List Str:=if w ∈ ws then ws else ws ++ [w]
def fB (ws l:List Str):List Str:=l.foldl insW ws
def bH (ws:List Str) (w:Str):Nat:=ws.countP fun x => decide (cmpX x w < 0)
def ordW (ws:List Str) (w:Str):List Str:=if w ∈ ws then ws else ws.take (bH ws w) ++ w :: ws.drop (bH ws w)
def lJ (ws l:List Str):List Str:=l.foldl ordW ws
def rV (ws:List Str):Prop:=ws.Pairwise fun x y => cmpX x y < 0
theorem aUd {ws:List Str}:fB ws [] = ws:=rfl
theorem V2 {ws l:List Str} {w:Str}:fB ws (w :: l) = fB (insW ws w) l:=rfl
theorem aR5 {ws l m:List Str}:fB ws (l ++ m) = fB (fB ws l) m:=by simp [fB]
theorem aC7 {ws l:List Str} {w:Str}:lJ ws (w :: l) = lJ (ordW ws w) l:=rfl
theorem aQW {ws l m:List Str}:lJ ws (l ++ m) = lJ (lJ ws l) m:=by simp [lJ]
theorem aPb {ws:List Str} {w:Str}:ws.length ≤ (insW ws w).length ∧ (insW ws w).length ≤ ws.length + 1:=by
 unfold insW; split <;> simp
theorem aEH:∀ {l ws:List Str},ws.length ≤ (fB ws l).length ∧ (fB ws l).length ≤ ws.length + l.length
 | [],ws => ⟨Nat.le_refl _,Nat.le_refl _⟩
 | w :: l,ws => by
  have h1:=aPb (ws:=ws) (w:=w)
  have h2:=aEH (l:=l) (ws:=insW ws w)
  rw [V2,List.length_cons]
  omega
theorem aNG {ws:List Str} {w x:Str}:x ∈ insW ws w ↔ x ∈ ws ∨ x = w:=by
 unfold insW
 split
 ·rename_i h
  exact ⟨.inl,fun h2 => h2.elim (fun h => h) fun h2 => by rw [h2]; exact h⟩
 ·simp
theorem aKY {x:Str}:∀ {l ws:List Str},x ∈ fB ws l ↔ x ∈ ws ∨ x ∈ l
 | [],ws => by simp [aUd]
 | w :: l,ws => by
  rw [V2,aKY,aNG,List.mem_cons]
  constructor
  ·rintro ((h | h) | h)
   ·exact .inl h
   ·exact .inr (.inl h)
   ·exact .inr (.inr h)
  ·rintro (h | h | h)
   ·exact .inl (.inl h)
   ·exact .inl (.inr h)
   ·exact .inr h
theorem B9:∀ {ws:List Str} (_:rV ws) (w:Str) (i:Nat) (h:i < ws.length),cmpX ws[i] w < 0 ↔ i < bH ws w
 | [],_,_,_,h => by simp at h
 | a :: ws,hs,w,i,h => by
  obtain ⟨h1,h2⟩:=List.pairwise_cons.1 hs
  unfold bH
  rw [List.countP_cons]
  by_cases ha:cmpX a w < 0
  ·rw [if_pos (by simpa using ha)]
   cases i with
   | zero => simp [ha]
   | succ i =>
    have:=B9 h2 w i (by simpa using h)
    unfold bH at this
    rw [List.getElem_cons_succ,this]; omega
  ·have h0:bH ws w = 0:=by
    unfold bH
    rw [List.countP_eq_zero]
    intro x hx
    have:=h1 x hx
    simp only [decide_eq_true_eq]
    exact fun h3 => ha (x2 this h3)
   rw [if_neg (by simpa using ha)]
   unfold bH at h0
   rw [h0]
   cases i with
   | zero => simpa using ha
   | succ i =>
    rw [List.getElem_cons_succ]
    have:=h1 (ws[i]'(by simpa using h)) (List.getElem_mem _)
    constructor
    ·intro h3; exact (ha (x2 this h3)).elim
    ·intro h3; omega
theorem aKy {ws:List Str} {w:Str}:bH ws w ≤ ws.length:=List.countP_le_length
theorem aTG {ws:List Str} (hs:rV ws) (w:Str):(bH ws w < ws.length ∧ ws.getD (bH ws w) [] = w) ↔ w ∈ ws:=by
 constructor
 ·rintro ⟨h1,h2⟩
  rw [List.getD_eq_getElem?_getD,List.getElem?_eq_getElem h1] at h2
  have h2:ws[bH ws w] = w:=h2
  rw [← h2]
  exact List.getElem_mem _
 ·intro hm
  obtain ⟨i,hi,rfl⟩:=List.getElem_of_mem hm
  have h1:¬ i < bH ws ws[i]:=fun h => M4 _ ((B9 hs _ i hi).2 h)
  have h2:¬ bH ws ws[i] < i:=fun h => by
   have h3:=List.pairwise_iff_getElem.1 hs (bH ws ws[i]) i (by omega) hi h
   have:=(B9 hs ws[i] (bH ws ws[i]) (by omega)).1 h3
   omega
  have e:bH ws ws[i] = i:=by omega
  refine ⟨by omega,?_⟩
  rw [e,List.getD_eq_getElem?_getD,List.getElem?_eq_getElem hi]
  rfl
theorem aKb {ws:List Str} (hs:rV ws) (w:Str):rV (ordW ws w):=by
 unfold ordW
 split
 ·exact hs
 ·rename_i hn
  have lt1:∀ x ∈ ws.take (bH ws w),cmpX x w < 0:=by
   intro x hx
   obtain ⟨i,hi,rfl⟩:=List.getElem_of_mem hx
   rw [List.length_take] at hi
   rw [List.getElem_take]
   exact (B9 hs w i (by omega)).2 (by omega)
  have lt2:∀ x ∈ ws.drop (bH ws w),cmpX w x < 0:=by
   intro x hx
   obtain ⟨i,hi,rfl⟩:=List.getElem_of_mem hx
   rw [List.length_drop] at hi
   rw [List.getElem_drop]
   have h1:¬ cmpX ws[bH ws w + i] w < 0:=fun h => by
    have:=(B9 hs w (bH ws w + i) (by omega)).1 h
    omega
   rcases VF w ws[bH ws w + i] with h | h | h
   ·exact (hn (by rw [h]; exact List.getElem_mem _)).elim
   ·exact h
   ·exact (h1 h).elim
  unfold rV
  rw [List.pairwise_append]
  refine ⟨hs.sublist (List.take_sublist _ _),List.pairwise_cons.2 ⟨lt2,hs.sublist (List.drop_sublist _ _)⟩,fun x hx y hy => ?_⟩
  rcases List.mem_cons.1 hy with rfl | hy
  ·exact lt1 x hx
  ·exact x2 (lt1 x hx) (lt2 y hy)
theorem SP:∀ {l ws:List Str},rV ws → rV (lJ ws l)
 | [],_,h => h
 | w :: l,ws,h => by rw [aC7]; exact SP (l:=l) (ws:=ordW ws w) (aKb h w)
theorem aEn {ws vs:List Str} (h:ws.Perm vs) (w:Str):(ordW ws w).Perm (insW vs w):=by
 unfold ordW insW
 by_cases hm:w ∈ ws
 ·rw [if_pos hm,if_pos (h.mem_iff.1 hm)]; exact h
 ·rw [if_neg hm,if_neg fun h2 => hm (h.mem_iff.2 h2)]
  refine List.perm_middle.trans ?_
  rw [List.take_append_drop]
  refine (h.cons w).trans ?_
  exact (List.perm_append_singleton w vs).symm
theorem SW:∀ {l ws vs:List Str},ws.Perm vs → (lJ ws l).Perm (fB vs l)
 | [],_,_,h => h
 | w :: l,ws,vs,h => by rw [aC7,V2]; exact SW (l:=l) (aEn h w)
theorem aVr {ws:List Str} {w:Str}:ws.length ≤ (ordW ws w).length ∧ (ordW ws w).length ≤ ws.length + 1:=by
 have h:=(aEn (List.Perm.refl ws) w).length_eq
 have:=aPb (ws:=ws) (w:=w)
 omega
theorem aQC {l ws:List Str}:ws.length ≤ (lJ ws l).length:=by
 have h:=(SW (l:=l) (List.Perm.refl ws)).length_eq
 have:=(aEH (l:=l) (ws:=ws)).1
 omega
theorem aV1 {l:List Str} (h:rV l):l.Pairwise fun x y => leX x y = true:=h.imp fun h => aUV h
theorem aQm {l m:List Str} (hl:rV l) (h:m.Perm l):m.mergeSort leX = l:=by
 refine ((List.mergeSort_perm m leX).trans h).eq_of_pairwise (fun x y _ _ h1 h2 => aFl h1 h2) ?_ (aV1 hl)
 exact List.pairwise_mergeSort RQ RL _
def endL (c m:Str) (ends:List Str):List Str:=ends.map fun e => c ++ m ++ e
def midL (c:Str) (mids ends:List Str):List Str:=mids.flatMap fun m => endL c m ends
def covL (cov mids ends:List Str):List Str:=cov.flatMap fun c => midL c mids ends
def optF (f:Str → List Str → Bool × List Str):List Str → List Str → Option (List Str)
 | [],o => some o
 | w :: l,o => if (f w o).1 = true then optF f l (f w o).2 else none
def run3 (f:Str → List Str → Bool × List Str) (ws:List Str):Nat → Nat → List Str → Bool × Nat × List Str
 | 0,q,o => (true,q,o)
 | j + 1,q,o => if (f (ws.getD q []) o).1 = true then run3 f ws j (q + 1) (f (ws.getD q []) o).2 else (false,q,(f (ws.getD q []) o).2)
theorem WA {f:Str → List Str → Bool × List Str} {ws:List Str}:∀ (j q:Nat) (o:List Str),q + j = ws.length → optF f (ws.drop q) o = if (run3 f ws j q o).1 = true then some (run3 f ws j q o).2.2 else none
 | 0,q,o,h => by
  obtain rfl:q = ws.length:=by omega
  rw [List.drop_length]; rfl
 | j + 1,q,o,h => by
  have hq:q < ws.length:=by omega
  have e:ws.drop q = ws.getD q [] :: ws.drop (q + 1):=by
   rw [List.drop_eq_getElem_cons hq,List.getD_eq_getElem?_getD,List.getElem?_eq_getElem hq]; rfl
  rw [e]
  unfold optF run3
  by_cases hf:(f (ws.getD q []) o).1 = true
  ·rw [if_pos hf,if_pos hf,WA j (q + 1) _ (by omega)]
  ·rw [if_neg hf,if_neg hf,if_neg Bool.false_ne_true]
theorem HD {f:Str → List Str → Bool × List Str} {ws:List Str} {j q:Nat} {o:List Str} (h:(f (ws.getD q []) o).1 = true):run3 f ws (j + 1) q o = run3 f ws j (q + 1) (f (ws.getD q []) o).2:=if_pos h
theorem M8 {f:Str → List Str → Bool × List Str} {ws:List Str} {j q:Nat} {o:List Str} (h:(f (ws.getD q []) o).1 = false):run3 f ws (j + 1) q o = (false,q,(f (ws.getD q []) o).2):=if_neg (by rw [h]; exact Bool.false_ne_true)
theorem NH {f:Str → List Str → Bool × List Str} {g:Str → List Str} {ins:List Str → List Str → List Str} (h0:∀ o,ins o [] = o) (happ:∀ o l m,ins o (l ++ m) = ins (ins o l) m) (hle:∀ o l,o.length ≤ (ins o l).length)
  (hf:∀ w o,o.length ≤ 3000 → if 3000 < (ins o (g w)).length then (f w o).1 = false else f w o = (true,ins o (g w))):∀ (ws o:List Str),o.length ≤ 3000 → optF f ws o = if 3000 < (ins o (ws.flatMap g)).length then none else some (ins o (ws.flatMap g))
 | [],o,h => by
  rw [List.flatMap_nil,h0,if_neg (by omega)]; rfl
 | w :: ws,o,h => by
  have hw:=hf w o h
  rw [List.flatMap_cons,happ]
  unfold optF
  by_cases hc:3000 < (ins o (g w)).length
  ·rw [if_pos hc] at hw
   rw [hw,if_neg Bool.false_ne_true,if_pos]
   have:=hle (ins o (g w)) (ws.flatMap g)
   omega
  ·rw [if_neg hc] at hw
   rw [hw,if_pos rfl]
   exact NH h0 happ hle hf ws _ (Nat.le_of_not_lt hc)
theorem aAl {f:Str → List Str → Bool × List Str} {ws o z:List Str} (h:optF f ws o = if 3000 < z.length then none else some z):if 3000 < z.length then (run3 f ws ws.length 0 o).1 = false else ((run3 f ws ws.length 0 o).1,(run3 f ws ws.length 0 o).2.2) = (true,z):=by
 have e:=WA (f:=f) (ws:=ws) ws.length 0 o (by omega)
 rw [List.drop_zero,h] at e
 by_cases hc:3000 < z.length
 ·rw [if_pos hc] at e ⊢
  cases hb:(run3 f ws ws.length 0 o).1 with
  | false => rfl
  | true => rw [hb,if_pos rfl] at e; cases e
 ·rw [if_neg hc] at e ⊢
  cases hb:(run3 f ws ws.length 0 o).1 with
  | false => rw [hb,if_neg Bool.false_ne_true] at e; cases e
  | true => rw [hb,if_pos rfl] at e; injection e with e; rw [e]
def midF (c:Str) (ends:List Str) (m:Str) (o:List Str):Bool × List Str:=(!decide (3000 < (fB o (endL c m ends)).length),fB o (endL c m ends))
def covF (mids ends:List Str) (c:Str) (o:List Str):Bool × List Str:=((run3 (midF c ends) mids mids.length 0 o).1,(run3 (midF c ends) mids mids.length 0 o).2.2)
def endS (c m:Str) (e:Str) (o:List Str):Bool × List Str:=(!decide (3000 < (ordW o (c ++ m ++ e)).length),ordW o (c ++ m ++ e))
def midZ (c:Str) (ends:List Str) (m:Str) (o:List Str):Bool × List Str:=((run3 (endS c m) ends ends.length 0 o).1,(run3 (endS c m) ends ends.length 0 o).2.2)
def covZ (mids ends:List Str) (c:Str) (o:List Str):Bool × List Str:=((run3 (midZ c ends) mids mids.length 0 o).1,(run3 (midZ c ends) mids mids.length 0 o).2.2)
theorem aPD {cov mids ends:List Str}:optF (covF mids ends) cov [] = if 3000 < (fB [] (covL cov mids ends)).length then none else some (fB [] (covL cov mids ends)):=by
 have ok:(∀ o,fB o [] = o) ∧ (∀ o l m,fB o (l ++ m) = fB (fB o l) m) ∧ ∀ o l,o.length ≤ (fB o l).length:=⟨fun _ => rfl,fun _ _ _ => aR5,fun _ _ => aEH.1⟩
 refine NH ok.1 ok.2.1 ok.2.2 (fun c o ho => aAl (NH ok.1 ok.2.1 ok.2.2 (fun m o ho => ?_) mids o ho)) cov [] (by simp)
 unfold midF
 split <;> simp [*]
theorem aYB {cov mids ends:List Str}:optF (covZ mids ends) cov [] = if 3000 < (lJ [] (covL cov mids ends)).length then none else some (lJ [] (covL cov mids ends)):=by
 have ok:(∀ o,lJ o [] = o) ∧ (∀ o l m,lJ o (l ++ m) = lJ (lJ o l) m) ∧ ∀ o l,o.length ≤ (lJ o l).length:=⟨fun _ => rfl,fun _ _ _ => aQW,fun _ _ => aQC⟩
 refine NH ok.1 ok.2.1 ok.2.2 (fun c o ho => aAl (NH ok.1 ok.2.1 ok.2.2 (fun m o ho => aAl ?_) mids o ho)) cov [] (by simp)
 have e:endL c m ends = ends.flatMap fun e => [c ++ m ++ e]:=by unfold endL; induction ends with
  | nil => rfl
  | cons x l ih => simp only [List.map_cons,List.flatMap_cons,ih,List.singleton_append]
 rw [e]
 refine NH ok.1 ok.2.1 ok.2.2 (fun e o ho => ?_) ends o ho
 have e1:lJ o [c ++ m ++ e] = ordW o (c ++ m ++ e):=rfl
 unfold endS
 rw [e1]
 split <;> rename_i hc <;> simp only [hc,decide_true,decide_false,Bool.not_true,Bool.not_false]
def EI (cov mids ends:List Str):Option (List Str):=if 3000 < (lJ [] (covL cov mids ends)).length then none else some (lJ [] (covL cov mids ends))
theorem aQw {cov mids ends:List Str}:(optF (covF mids ends) cov []).map (fun ws => ws.mergeSort leX) = EI cov mids ends:=by
 rw [aPD]
 unfold EI
 have hp:=SW (l:=covL cov mids ends) (List.Perm.refl [])
 rw [hp.length_eq]
 split
 ·rfl
 ·rw [Option.map_some,aQm (SP List.Pairwise.nil) hp.symm]
theorem aVM {cov mids ends l:List Str} (h:EI cov mids ends = some l):rV l ∧ l.length ≤ 3000:=by
 unfold EI at h
 split at h
 ·cases h
 ·cases h
  exact ⟨SP List.Pairwise.nil,by omega⟩
theorem aEY {R:Type} {L n:Nat} (hn:1 ≤ n) {a:Int} {k:Exit → List A → H → Option R}:∀ (i:Int) (m:Nat) (l:List Int) (len:Nat) (h0:0 ≤ i) (hi:i ≤ 6) (hm:6 - i < m) (hl:len = l.length) (hlen:(l.length:Int) ≤ i),
  aJ env (aA env L n) L 0 [] Bz42 (tB 0) (Z1 (U1 (Z2 (Z1 (U8 (U4 (U1 ([])))))))) m (nI a :: Y1 (.d .nils :: .sl 0 0 0 len :: nI i :: Y8 (Y4 (Y1 ([]))))) [.arr (ints l) 1 0] k
  = k (.exit 0) (nI a :: Y1 (.d .nils :: .sl 0 0 0 (len + ((wB (6 - i).toNat).filter (iZ a)).length) :: nI 6 :: Y8 (Y4 (Y1 ([]))))) [.arr (ints (l ++ (wB (6 - i).toNat).filter (iZ a))) 1 0]:=by
 intro i m l len h0 hi hm hl hlen
 obtain ⟨j,hj⟩:∃ j:Nat,(j:Int) = (6:Int) - i:=⟨((6:Int) - i).toNat,by omega⟩
 induction j generalizing i m l len with
 | zero =>
  obtain _ | m:=m; omega
  obtain rfl:i = 6:=by omega
  rw [xO]
  simp only [wC,Tryz.f83,SLM,simprocAttr]
  simp -implicitDefEqProofs (maxSteps:=2000000) (disch:=try exact Dz) only [↓DN,↓kAsg,↓kRet,UP,simprocAttr,↓lI]
  simp only [wB,List.filter_nil,List.append_nil,List.length_nil,Nat.add_zero]
 | succ j ih =>
  obtain _ | m:=m; omega
  have hc:i < 6:=by omega
  have e1:(6 - i).toNat = j + 1:=by omega
  have e2:(6 - (i + 1)).toNat = j:=by omega
  have hr:wB (j + 1) = i :: wB j:=by simp only [wB]; congr 1; omega
  rw [e1,hr,List.filter_cons]
  cases hb:iZ a i with
  | true =>
   rw [xO]
   simp only [wC,Tryz.f83,SLM,simprocAttr]
   simp -implicitDefEqProofs (maxSteps:=2000000) (disch:=try exact Dz) only [↓DN,↓kAsg,↓kRet,UP,simprocAttr,↓lI,↓ih,hc,hb,e2]
   simp only [List.append_assoc,List.cons_append,List.nil_append,Nat.add_assoc,Nat.add_comm 1]
  | false =>
   rw [xO]
   simp only [wC,Tryz.f83,SLM,simprocAttr]
   simp -implicitDefEqProofs (maxSteps:=2000000) (disch:=try exact Dz) only [↓DN,↓kAsg,↓kRet,UP,simprocAttr,↓lI,↓ih,hc,hb,e2]
theorem aY8:wB (6 - (0:Int)).toNat = [0,1,2,3,4,5]:=rfl
theorem aIY {L n:Nat} (hn:2 ≤ n) (a:Int) (hL:2 ^ 60 ≤ L):aA env L n 83 [nI a] [] = some (.d (.ivs (aB a).length (ints (aB a))),[]):=by
 unfold aB
 rw [← aY8]
 obtain _ | n:=n; omega
 rw [aIS]
 simp only [ZQ,Tryz.f83,SLM,simprocAttr]
 simp -implicitDefEqProofs (maxSteps:=2000000) (disch:=try exact Dz) only [↓DN,↓kAsg,↓kRet,UP,simprocAttr,↓lI,aVZ,↓aEY]
theorem bF {L:Nat} (a:Int) (hL:2 ^ 60 ≤ L):KC 2 L 83 [nI a] (.d (.ivs (aB a).length (ints (aB a)))):=ks rfl (fun hn => aIY hn a hL) rfl (.inr rfl)
def badQ (n:Int) (r:List Int) (i:Nat):Bool:=!(decide (0 ≤ r.getD i 0) && decide (r.getD i 0 < n))
def AD (w n:Int) (r:List Int):Bool:=!decide ((r.length:Int) = w) || (seek (badQ n r) r.length 0).isSome
def kL (w n:Int) (rs:List (List Int)) (i:Nat):Bool:=AD w n (rs.getD i [])
def eX (al:Int) (rs:List (List Int)) (ac:List Bool):Bool :=
 nA al && decide ((1:Int) ≤ rs.length) && decide ((rs.length:Int) ≤ 12) && decide ((ac.length:Int) = rs.length) && (seek (kL (aB al).length rs.length rs) rs.length 0).isNone
theorem aMg {w n:Int} {r:List Int} (h:¬ (r.length:Int) = w):AD w n r = true:=by
 unfold AD
 rw [decide_eq_false h]
 rfl
theorem XQ {w n:Int} {r:List Int} (h:(r.length:Int) = w):AD w n r = (seek (badQ n r) r.length 0).isSome:=by
 unfold AD
 rw [decide_eq_true h]
 rfl
theorem SL {n:Int} {r:List Int} {i:Nat}:badQ n r i = true ↔ ¬ (0 ≤ r.getD i 0 ∧ r.getD i 0 < n):=by
 unfold badQ
 simp only [Bool.not_eq_true',Bool.and_eq_false_iff,decide_eq_false_iff_not]
 omega
theorem EO {n:Int} {r:List Int} {i:Nat}:badQ n r i = false ↔ (0 ≤ r.getD i 0 ∧ r.getD i 0 < n):=by
 unfold badQ
 simp only [Bool.not_eq_false',Bool.and_eq_true,decide_eq_true_eq]
theorem DJ {R:Type} {L nn:Nat} (hn:1 ≤ nn) {n:Int} {r:List Int} (hl:r.length ≤ 4294967296) {k:Exit → List A → H → Option R}:∀ (j:Nat) (i:Int) (m:Nat) (h0:0 ≤ i) (hi:i + j = r.length) (hm:j < m),
  aJ env (aA env L nn) L 0 [] Bz27 (FK 0) (Z1 (U1 (Z1 (U2 (U1 (Z2 (U16 (U4 (U2 (U1 ([]))))))))))) m (.d (.ivs r.length (ints r)) :: Y1 (nI n :: Y2 (Y1 (.d (.bool false) :: nI i :: Y16 (Y4 (Y2 (Y1 ([])))))))) [] k
  = match seek (badQ n r) j i.toNat with
   | none => k (.exit 0) (.d (.ivs r.length (ints r)) :: Y1 (nI n :: Y2 (Y1 (.d (.bool false) :: nI (r.length) :: Y16 (Y4 (Y2 (Y1 ([])))))))) []
   | some q => k .ret (.d (.ivs r.length (ints r)) :: Y1 (nI n :: Y2 (Y1 (.d (.bool false) :: nI q :: Y16 (Y4 (Y2 (Y1 ([])))))))) []:=by
 intro j
 induction j with
 | zero =>
  intro i m h0 hi hm
  obtain _ | m:=m; omega
  obtain rfl:i = r.length:=by omega
  rw [yE]
  simp only [AY,Tryz.f82,SLM,simprocAttr]
  simp -implicitDefEqProofs (maxSteps:=2000000) (disch:=try exact Dz) only [↓DN,↓kAsg,↓kRet,UP,simprocAttr,LA,Int.lt_irrefl]
  rfl
 | succ j ih =>
  intro i m h0 hi hm
  obtain _ | m:=m; omega
  have hc:i < r.length:=by omega
  have hk:i.toNat < r.length:=by omega
  have e1:(i + 1).toNat = i.toNat + 1:=by omega
  have e3:((i.toNat:Nat):Int) = i:=by omega
  by_cases h1:r.getD i.toNat 0 < 0
  ·have hb:badQ n r i.toNat = true:=by rw [SL]; omega
   rw [pE hb]
   rw [yE]
   simp only [AY,Tryz.f82,SLM,simprocAttr]
   simp -implicitDefEqProofs (maxSteps:=2000000) (disch:=try exact Dz) only [↓DN,↓kAsg,↓kRet,UP,simprocAttr,LA,dP,iY,hc,h1,e3]
  ·by_cases h2:n ≤ r.getD i.toNat 0
   ·have hb:badQ n r i.toNat = true:=by rw [SL]; omega
    rw [pE hb]
    rw [yE]
    simp only [AY,Tryz.f82,SLM,simprocAttr]
    simp -implicitDefEqProofs (maxSteps:=2000000) (disch:=try exact Dz) only [↓DN,↓kAsg,↓kRet,UP,simprocAttr,LA,dP,iY,hc,h1,h2,e3]
   ·have hb:badQ n r i.toNat = false:=by rw [EO]; omega
    rw [uK hb]
    rw [yE]
    simp only [AY,Tryz.f82,SLM,simprocAttr]
    simp -implicitDefEqProofs (maxSteps:=2000000) (disch:=try exact Dz) only [↓DN,↓kAsg,↓kRet,UP,simprocAttr,LA,dP,iY,hc,h1,h2,↓ih,e1]
theorem aHi {L n:Nat} (hn:2 ≤ n) (r:List Int) (w q:Int) (hl:r.length ≤ 4294967296) (hL:2 ^ 60 ≤ L):aA env L n 82 [.d (.ivs r.length (ints r)),nI w,nI q] [] = some (.d (.bool (!AD w q r)),[]):=by
 unfold AD
 by_cases h1:(r.length:Int) = w
 ·have loop_a:=fun {R:Type} {n:Nat} (hn:1 ≤ n) {k:Exit → List A → H → Option R} => DJ (R:=R) (L:=L) (nn:=n) hn (n:=q) hl (k:=k) r.length 0 L (by omega) (by omega) (by omega)
  simp only [Int.toNat_zero] at loop_a
  cases hs:seek (badQ q r) r.length 0 with
  | none =>
   rw [hs] at loop_a
   obtain _ | n:=n; omega
   rw [WV]
   simp only [Q1,Tryz.f82,SLM,simprocAttr]
   simp -implicitDefEqProofs (maxSteps:=2000000) (disch:=try exact Dz) only [↓DN,↓kAsg,↓kRet,UP,simprocAttr,↓DJ,LA,h1,↓loop_a,hs]
  | some z =>
   rw [hs] at loop_a
   obtain _ | n:=n; omega
   rw [WV]
   simp only [Q1,Tryz.f82,SLM,simprocAttr]
   simp -implicitDefEqProofs (maxSteps:=2000000) (disch:=try exact Dz) only [↓DN,↓kAsg,↓kRet,UP,simprocAttr,↓DJ,LA,h1,↓loop_a,hs]
 ·obtain _ | n:=n; omega
  rw [WV]
  simp only [Q1,Tryz.f82,SLM,simprocAttr]
  simp -implicitDefEqProofs (maxSteps:=2000000) (disch:=try exact Dz) only [↓DN,↓kAsg,↓kRet,UP,simprocAttr,↓DJ,LA,h1]
theorem oR {L:Nat} (r:List Int) (w q:Int) (hl:r.length ≤ 4294967296) (hL:2 ^ 60 ≤ L):KC 2 L 82 [.d (.ivs r.length (ints r)),nI w,nI q] (.d (.bool (!AD w q r))):=ks rfl (fun hn => aHi hn r w q hl hL) rfl (.inl rfl)
theorem oQ {L:Nat} (r:List Int) (w q:Int) (hl:r.length ≤ 4294967296) (hL:2 ^ 60 ≤ L):KT 2 L 82 [.d (.ivs r.length (ints r)),nI w,nI q] (.d (.bool (!AD w q r))):=fun hn => bY (aHi hn r w q hl hL) rfl
theorem lK {L:Nat} {id0 g0 o0 len0:Nat} {w q:Int}:KV L 82 [.sl id0 g0 o0 len0,nI w,nI q]:=aF O8
theorem gG {R:Type} {L n:Nat} (hL:2 ^ 60 ≤ L) (hn:3 ≤ n) {al:Int} {rs:List (List Int)} {ac:List Bool} (hs:a8 rs) {k:Exit → List A → H → Option R}:∀ (j:Nat) (i:Int) (m:Nat) (h0:0 ≤ i) (hi:i + j = rs.length) (hm:j < m),
  aJ env (aA env L n) L 0 [] Bz46 (mZ 0) (U1 (Z4 (U32 (U4 (U2 (U1 ([]))))))) m (Y1 (.ptr 0 0 0 :: .d (.bool false) :: nI (rs.length) :: nI i :: Y32 (Y4 (Y2 (Y1 ([])))))) [.box [nI al,.d (.ivs rs.length (rowsD rs)),.d (.ivs ac.length (bools ac))]] k
  = match seek (kL (aB al).length rs.length rs) j i.toNat with
   | none => k (.exit 0) (Y1 (.ptr 0 0 0 :: .d (.bool false) :: nI (rs.length) :: nI (rs.length) :: Y32 (Y4 (Y2 (Y1 ([])))))) [.box [nI al,.d (.ivs rs.length (rowsD rs)),.d (.ivs ac.length (bools ac))]]
   | some q => k .ret (Y1 (.ptr 0 0 0 :: .d (.bool false) :: nI (rs.length) :: nI q :: Y32 (Y4 (Y2 (Y1 ([])))))) [.box [nI al,.d (.ivs rs.length (rowsD rs)),.d (.ivs ac.length (bools ac))]]:=by
 intro j
 have hrl:=hs.1
 have hll:=eF al
 induction j with
 | zero =>
  intro i m h0 hi hm
  obtain _ | m:=m; omega
  obtain rfl:i = rs.length:=by omega
  rw [p6]
  simp only [oT,Tryz.f41,SLM,simprocAttr]
  simp -implicitDefEqProofs (maxSteps:=2000000) (disch:=try exact Dz) only [↓DN,↓kAsg,↓kRet,UP,simprocAttr,↓iN,↓bF,↓oR,↓oQ,↓lK,LA,Int.lt_irrefl]
  rfl
 | succ j ih =>
  intro i m h0 hi hm
  obtain _ | m:=m; omega
  have hc:i < rs.length:=by omega
  have hk:i.toNat < rs.length:=by omega
  have hrow:=BU hs hk
  have e1:(i + 1).toNat = i.toNat + 1:=by omega
  have e3:((i.toNat:Nat):Int) = i:=by omega
  cases hb:kL (aB al).length rs.length rs i.toNat with
  | true =>
   rw [pE hb]
   unfold kL at hb
   rw [p6]
   simp only [oT,Tryz.f41,SLM,simprocAttr]
   simp -implicitDefEqProofs (maxSteps:=2000000) (disch:=try exact Dz) only [↓DN,↓kAsg,↓kRet,UP,simprocAttr,↓iN,↓bF,↓oR,↓oQ,↓lK,LA,jQ,kF,hc,hb,e3]
  | false =>
   rw [uK hb]
   unfold kL at hb
   rw [p6]
   simp only [oT,Tryz.f41,SLM,simprocAttr]
   simp -implicitDefEqProofs (maxSteps:=2000000) (disch:=try exact Dz) only [↓DN,↓kAsg,↓kRet,UP,simprocAttr,↓iN,↓bF,↓oR,↓oQ,↓lK,LA,jQ,kF,hc,hb,↓ih,e1]
theorem G1 {L n:Nat} (hn:4 ≤ n) (al:Int) (rs:List (List Int)) (ac:List Bool) (hs:a8 rs) (ha:ac.length ≤ 4294967296) (hL:2 ^ 60 ≤ L):aA env L n 41 [.agg [nI al,.d (.ivs rs.length (rowsD rs)),.d (.ivs ac.length (bools ac))]] [] = some (.d (.bool (eX al rs ac)),[]):=by
 have hrl:=hs.1
 have loop_a:=fun {R:Type} {n:Nat} (hn:3 ≤ n) {k:Exit → List A → H → Option R} => gG (R:=R) (L:=L) hL hn (al:=al) (ac:=ac) hs (k:=k) rs.length 0 L (by omega) (by omega) (by omega)
 simp only [Int.toNat_zero] at loop_a
 unfold eX
 cases hq:nA al with
 | false =>
  obtain _ | n:=n; omega
  rw [kB]
  simp only [jD,Tryz.f41,SLM,simprocAttr]
  simp -implicitDefEqProofs (maxSteps:=2000000) (disch:=try exact Dz) only [↓DN,↓kAsg,↓kRet,UP,simprocAttr,↓iN,↓bF,↓oR,↓oQ,↓lK,↓gG,LA,hq,Bool.false_and]
 | true =>
  by_cases h1:(1:Int) ≤ rs.length
  ·have n1:¬ (rs.length:Int) < 1:=by omega
   by_cases h2:(rs.length:Int) ≤ 12
   ·have n2:¬ (12:Int) < rs.length:=by omega
    by_cases h3:(ac.length:Int) = rs.length
    ·cases hk:seek (kL (aB al).length rs.length rs) rs.length 0 with
     | none =>
      rw [hk] at loop_a
      obtain _ | n:=n; omega
      rw [kB]
      simp only [jD,Tryz.f41,SLM,simprocAttr]
      simp -implicitDefEqProofs (maxSteps:=2000000) (disch:=try exact Dz) only [↓DN,↓kAsg,↓kRet,UP,simprocAttr,↓iN,↓bF,↓oR,↓oQ,↓lK,↓gG,LA,hq,h1,n1,h2,n2,h3,hk,↓loop_a]
     | some z =>
      rw [hk] at loop_a
      obtain _ | n:=n; omega
      rw [kB]
      simp only [jD,Tryz.f41,SLM,simprocAttr]
      simp -implicitDefEqProofs (maxSteps:=2000000) (disch:=try exact Dz) only [↓DN,↓kAsg,↓kRet,UP,simprocAttr,↓iN,↓bF,↓oR,↓oQ,↓lK,↓gG,LA,hq,h1,n1,h2,n2,h3,hk,↓loop_a,Bool.and_false]
    ·obtain _ | n:=n; omega
     rw [kB]
     simp only [jD,Tryz.f41,SLM,simprocAttr]
     simp -implicitDefEqProofs (maxSteps:=2000000) (disch:=try exact Dz) only [↓DN,↓kAsg,↓kRet,UP,simprocAttr,↓iN,↓bF,↓oR,↓oQ,↓lK,↓gG,LA,hq,h1,n1,h2,n2,h3,Bool.false_and,Bool.and_false]
   ·have n2:(12:Int) < rs.length:=by omega
    obtain _ | n:=n; omega
    rw [kB]
    simp only [jD,Tryz.f41,SLM,simprocAttr]
    simp -implicitDefEqProofs (maxSteps:=2000000) (disch:=try exact Dz) only [↓DN,↓kAsg,↓kRet,UP,simprocAttr,↓iN,↓bF,↓oR,↓oQ,↓lK,↓gG,LA,hq,h1,n1,h2,n2,Bool.false_and,Bool.and_false]
  ·have n1:(rs.length:Int) < 1:=by omega
   obtain _ | n:=n; omega
   rw [kB]
   simp only [jD,Tryz.f41,SLM,simprocAttr]
   simp -implicitDefEqProofs (maxSteps:=2000000) (disch:=try exact Dz) only [↓DN,↓kAsg,↓kRet,UP,simprocAttr,↓iN,↓bF,↓oR,↓oQ,↓lK,↓gG,LA,hq,h1,n1,Bool.false_and,Bool.and_false]
theorem aU {L:Nat} (al:Int) (rs:List (List Int)) (ac:List Bool) (hs:a8 rs) (ha:ac.length ≤ 4294967296) (hL:2 ^ 60 ≤ L):KC 4 L 41 [.agg [nI al,.d (.ivs rs.length (rowsD rs)),.d (.ivs ac.length (bools ac))]] (.d (.bool (eX al rs ac))):=ks rfl (fun hn => G1 hn al rs ac hs ha hL) rfl (.inl rfl)
theorem aV {L:Nat} (al:Int) (rs:List (List Int)) (ac:List Bool) (hs:a8 rs) (ha:ac.length ≤ 4294967296) (hL:2 ^ 60 ≤ L):KT 4 L 41 [.agg [nI al,.d (.ivs rs.length (rowsD rs)),.d (.ivs ac.length (bools ac))]] (.d (.bool (eX al rs ac))):=fun hn => bY (G1 hn al rs ac hs ha hL) rfl
theorem aO {L:Nat} {id0 g0 o0 len0:Nat} {al:Int} {ac:List Bool}:KV L 41 [.agg [nI al,.sl id0 g0 o0 len0,.d (.ivs ac.length (bools ac))]]:=aF kV
theorem aN {L:Nat} {id1 g1 o1 len1:Nat} {al:Int} {rs:List (List Int)}:KV L 41 [.agg [nI al,.d (.ivs rs.length (rowsD rs)),.sl id1 g1 o1 len1]]:=aF kV
theorem aM {L:Nat} {id1 g1 o1 len1:Nat} {id0 g0 o0 len0:Nat} {al:Int}:KV L 41 [.agg [nI al,.sl id0 g0 o0 len0,.sl id1 g1 o1 len1]]:=aF kV
theorem c7 {R:Type} {L n:Nat} (hL:2 ^ 60 ≤ L) (hn:3 ≤ n) {al q w:Int} {rs:List (List Int)} {ac:List Bool} (hs:a8 rs) {r:List Int} (hr:r.length ≤ 4294967296) {k:Exit → List A → H → Option R}:∀ (j:Nat) (i:Int) (m:Nat) (h0:0 ≤ i) (hi:i + j = r.length) (hm:j < m),
  aJ env (aA env L n) L 0 [] Bz6 (e9 1) (U1 (Z2 (Z1 (U32 (U2 (Z2 (Z1 (U4 (U2 (U1 (Z2 (Z1 (U8 (U4 (U2 ([])))))))))))))))) m (Y1 (.ptr 0 0 0 :: .d (.bool false) :: nI w :: Y32 (Y2 (.d (.ivs rs.length (rowsD rs)) :: nI (rs.length) :: nI q :: Y4 (Y2 (Y1 (.d (.ivs r.length (ints r)) :: nI (r.length) :: nI i :: Y8 (Y4 (Y2 ([])))))))))) [.box [nI al,.d (.ivs rs.length (rowsD rs)),.d (.ivs ac.length (bools ac))]] k
  = match seek (badQ rs.length r) j i.toNat with
   | none => k (.exit 2) (Y1 (.ptr 0 0 0 :: .d (.bool false) :: nI w :: Y32 (Y2 (.d (.ivs rs.length (rowsD rs)) :: nI (rs.length) :: nI q :: Y4 (Y2 (Y1 (.d (.ivs r.length (ints r)) :: nI (r.length) :: nI (r.length) :: Y8 (Y4 (Y2 ([])))))))))) [.box [nI al,.d (.ivs rs.length (rowsD rs)),.d (.ivs ac.length (bools ac))]]
   | some z => k .ret (Y1 (.ptr 0 0 0 :: .d (.bool false) :: nI w :: Y32 (Y2 (.d (.ivs rs.length (rowsD rs)) :: nI (rs.length) :: nI q :: Y4 (Y2 (Y1 (.d (.ivs r.length (ints r)) :: nI (r.length) :: nI z :: Y8 (Y4 (Y2 ([])))))))))) [.box [nI al,.d (.ivs rs.length (rowsD rs)),.d (.ivs ac.length (bools ac))]]:=by
 intro j
 have hrl:=hs.1
 induction j with
 | zero =>
  intro i m h0 hi hm
  obtain _ | m:=m; omega
  obtain rfl:i = r.length:=by omega
  rw [mN]
  simp only [lL,Tryz.f48,SLM,simprocAttr]
  simp -implicitDefEqProofs (maxSteps:=2000000) (disch:=try exact Dz) only [↓DN,↓kAsg,↓kRet,UP,simprocAttr,↓dT,↓bI,LA,Int.lt_irrefl]
  rfl
 | succ j ih =>
  intro i m h0 hi hm
  obtain _ | m:=m; omega
  have hc:i < r.length:=by omega
  have hk:i.toNat < r.length:=by omega
  have e1:(i + 1).toNat = i.toNat + 1:=by omega
  have e3:((i.toNat:Nat):Int) = i:=by omega
  by_cases h1:r.getD i.toNat 0 < 0
  ·have hb:badQ rs.length r i.toNat = true:=by rw [SL]; omega
   rw [pE hb]
   rw [mN]
   simp only [lL,Tryz.f48,SLM,simprocAttr]
   simp -implicitDefEqProofs (maxSteps:=2000000) (disch:=try exact Dz) only [↓DN,↓kAsg,↓kRet,UP,simprocAttr,↓dT,↓bI,LA,dP,iY,hc,h1,e3]
  ·by_cases h2:(rs.length:Int) ≤ r.getD i.toNat 0
   ·have hb:badQ rs.length r i.toNat = true:=by rw [SL]; omega
    rw [pE hb]
    rw [mN]
    simp only [lL,Tryz.f48,SLM,simprocAttr]
    simp -implicitDefEqProofs (maxSteps:=2000000) (disch:=try exact Dz) only [↓DN,↓kAsg,↓kRet,UP,simprocAttr,↓dT,↓bI,LA,dP,iY,hc,h1,h2,e3]
   ·have hb:badQ rs.length r i.toNat = false:=by rw [EO]; omega
    rw [uK hb]
    rw [mN]
    simp only [lL,Tryz.f48,SLM,simprocAttr]
    simp -implicitDefEqProofs (maxSteps:=2000000) (disch:=try exact Dz) only [↓DN,↓kAsg,↓kRet,UP,simprocAttr,↓dT,↓bI,LA,dP,iY,hc,h1,h2,↓ih,e1]
theorem fH {R:Type} {L n:Nat} (hL:2 ^ 60 ≤ L) (hn:3 ≤ n) {al:Int} {rs:List (List Int)} {ac:List Bool} (hs:a8 rs) {k:Exit → List A → H → Option R}:∀ (j:Nat) (i:Int) (m:Nat) (h0:0 ≤ i) (hi:i + j = rs.length) (hm:j < m),
  aJ env (aA env L n) L 0 [] Bz6 (e9 0) (U1 (Z2 (Z1 (U32 (U2 (Z2 (Z1 (U16 (U8 ([])))))))))) m (Y1 (.ptr 0 0 0 :: .d (.bool false) :: nI ((aB al).length) :: Y32 (Y2 (.d (.ivs rs.length (rowsD rs)) :: nI (rs.length) :: nI i :: Y16 (Y8 ([])))))) [.box [nI al,.d (.ivs rs.length (rowsD rs)),.d (.ivs ac.length (bools ac))]] k
  = match seek (kL (aB al).length rs.length rs) j i.toNat with
   | none => k (.exit 0) (Y1 (.ptr 0 0 0 :: .d (.bool false) :: nI ((aB al).length) :: Y32 (Y2 (.d (.ivs rs.length (rowsD rs)) :: nI (rs.length) :: nI (rs.length) :: Y16 (Y8 ([])))))) [.box [nI al,.d (.ivs rs.length (rowsD rs)),.d (.ivs ac.length (bools ac))]]
   | some q => k .ret (Y1 (.ptr 0 0 0 :: .d (.bool false) :: nI ((aB al).length) :: Y32 (Y2 (.d (.ivs rs.length (rowsD rs)) :: nI (rs.length) :: nI q :: Y16 (Y8 ([])))))) [.box [nI al,.d (.ivs rs.length (rowsD rs)),.d (.ivs ac.length (bools ac))]]:=by
 intro j
 have hrl:=hs.1
 have hll:=eF al
 induction j with
 | zero =>
  intro i m h0 hi hm
  obtain _ | m:=m; omega
  obtain rfl:i = rs.length:=by omega
  rw [mP]
  simp only [lQ,Tryz.f48,SLM,simprocAttr]
  simp -implicitDefEqProofs (maxSteps:=2000000) (disch:=try exact Dz) only [↓DN,↓kAsg,↓kRet,UP,simprocAttr,↓dT,↓bI,↓c7,LA,Int.lt_irrefl]
  rfl
 | succ j ih =>
  intro i m h0 hi hm
  obtain _ | m:=m; omega
  have hc:i < rs.length:=by omega
  have hk:i.toNat < rs.length:=by omega
  have hrow:=BU hs hk
  have e1:(i + 1).toNat = i.toNat + 1:=by omega
  have e3:((i.toNat:Nat):Int) = i:=by omega
  have loop_a:=fun {R:Type} {k:Exit → List A → H → Option R} => c7 (R:=R) (n:=n) (L:=L) hL hn (al:=al) (q:=i) (w:=(aB al).length) (ac:=ac) hs hrow (k:=k) (rs.getD i.toNat []).length 0 L (by omega) (by omega) (by omega)
  simp only [Int.toNat_zero] at loop_a
  cases hb:kL (aB al).length rs.length rs i.toNat with
  | true =>
   rw [pE hb]
   unfold kL at hb
   by_cases hw:((rs.getD i.toNat []).length:Int) = (aB al).length
   ·have hwd:decide (((rs.getD i.toNat []).length:Int) = (aB al).length) = true:=decide_eq_true hw
    cases hz:seek (badQ rs.length (rs.getD i.toNat [])) (rs.getD i.toNat []).length 0 with
    | none => rw [XQ hw,hz] at hb; cases hb
    | some z =>
     rw [hz] at loop_a
     clear ih hb
     rw [mP]
     simp only [lQ,Tryz.f48,SLM,simprocAttr]
     simp -implicitDefEqProofs (maxSteps:=2000000) (disch:=try exact Dz) only [↓DN,↓kAsg,↓kRet,UP,simprocAttr,↓dT,↓bI,↓c7,LA,jQ,kF,hc,hwd,↓loop_a,e3]
   ·clear ih hb loop_a
    rw [mP]
    simp only [lQ,Tryz.f48,SLM,simprocAttr]
    simp -implicitDefEqProofs (maxSteps:=2000000) (disch:=try exact Dz) only [↓DN,↓kAsg,↓kRet,UP,simprocAttr,↓dT,↓bI,↓c7,LA,jQ,kF,hc,hw,e3]
  | false =>
   rw [uK hb]
   unfold kL at hb
   by_cases hw:((rs.getD i.toNat []).length:Int) = (aB al).length
   ·have hwd:decide (((rs.getD i.toNat []).length:Int) = (aB al).length) = true:=decide_eq_true hw
    cases hz:seek (badQ rs.length (rs.getD i.toNat [])) (rs.getD i.toNat []).length 0 with
    | none =>
     rw [hz] at loop_a
     clear hb
     rw [mP]
     simp only [lQ,Tryz.f48,SLM,simprocAttr]
     simp -implicitDefEqProofs (maxSteps:=2000000) (disch:=try exact Dz) only [↓DN,↓kAsg,↓kRet,UP,simprocAttr,↓dT,↓bI,↓c7,LA,jQ,kF,hc,hwd,↓loop_a,↓ih,e1]
    | some z => rw [XQ hw,hz] at hb; cases hb
   ·rw [aMg hw] at hb; cases hb
theorem GV {L n:Nat} (hn:4 ≤ n) (al:Int) (rs:List (List Int)) (ac:List Bool) (hs:a8 rs) (ha:ac.length ≤ 4294967296) (hL:2 ^ 60 ≤ L):aA env L n 48 [.agg [nI al,.d (.ivs rs.length (rowsD rs)),.d (.ivs ac.length (bools ac))]] [] = some (.d (.bool (eX al rs ac)),[]):=by
 have hrl:=hs.1
 have hll:=eF al
 have loop_a:=fun {R:Type} {n:Nat} (hn:3 ≤ n) {k:Exit → List A → H → Option R} => fH (R:=R) (L:=L) hL hn (al:=al) (ac:=ac) hs (k:=k) rs.length 0 L (by omega) (by omega) (by omega)
 simp only [Int.toNat_zero] at loop_a
 unfold eX
 cases hq:nA al with
 | false =>
  obtain _ | n:=n; omega
  rw [j8]
  simp only [jE,Tryz.f48,SLM,simprocAttr]
  simp -implicitDefEqProofs (maxSteps:=2000000) (disch:=try exact Dz) only [↓DN,↓kAsg,↓kRet,UP,simprocAttr,↓dT,↓bI,↓fH,↓c7,LA,hq,Bool.false_and]
 | true =>
  by_cases h1:(1:Int) ≤ rs.length
  ·have n1:¬ (rs.length:Int) < 1:=by omega
   by_cases h2:(rs.length:Int) ≤ 12
   ·have n2:¬ (12:Int) < rs.length:=by omega
    by_cases h3:(ac.length:Int) = rs.length
    ·cases hk:seek (kL (aB al).length rs.length rs) rs.length 0 with
     | none =>
      rw [hk] at loop_a
      obtain _ | n:=n; omega
      rw [j8]
      simp only [jE,Tryz.f48,SLM,simprocAttr]
      simp -implicitDefEqProofs (maxSteps:=2000000) (disch:=try exact Dz) only [↓DN,↓kAsg,↓kRet,UP,simprocAttr,↓dT,↓bI,↓fH,↓c7,LA,hq,h1,n1,h2,n2,h3,hk,↓loop_a]
     | some z =>
      rw [hk] at loop_a
      obtain _ | n:=n; omega
      rw [j8]
      simp only [jE,Tryz.f48,SLM,simprocAttr]
      simp -implicitDefEqProofs (maxSteps:=2000000) (disch:=try exact Dz) only [↓DN,↓kAsg,↓kRet,UP,simprocAttr,↓dT,↓bI,↓fH,↓c7,LA,hq,h1,n1,h2,n2,h3,hk,↓loop_a,Bool.and_false]
    ·obtain _ | n:=n; omega
     rw [j8]
     simp only [jE,Tryz.f48,SLM,simprocAttr]
     simp -implicitDefEqProofs (maxSteps:=2000000) (disch:=try exact Dz) only [↓DN,↓kAsg,↓kRet,UP,simprocAttr,↓dT,↓bI,↓fH,↓c7,LA,hq,h1,n1,h2,n2,h3,Bool.false_and,Bool.and_false]
   ·have n2:(12:Int) < rs.length:=by omega
    obtain _ | n:=n; omega
    rw [j8]
    simp only [jE,Tryz.f48,SLM,simprocAttr]
    simp -implicitDefEqProofs (maxSteps:=2000000) (disch:=try exact Dz) only [↓DN,↓kAsg,↓kRet,UP,simprocAttr,↓dT,↓bI,↓fH,↓c7,LA,hq,h1,n1,h2,n2,Bool.false_and,Bool.and_false]
  ·have n1:(rs.length:Int) < 1:=by omega
   obtain _ | n:=n; omega
   rw [j8]
   simp only [jE,Tryz.f48,SLM,simprocAttr]
   simp -implicitDefEqProofs (maxSteps:=2000000) (disch:=try exact Dz) only [↓DN,↓kAsg,↓kRet,UP,simprocAttr,↓dT,↓bI,↓fH,↓c7,LA,hq,h1,n1,Bool.false_and,Bool.and_false]
theorem aX {L:Nat} (al:Int) (rs:List (List Int)) (ac:List Bool) (hs:a8 rs) (ha:ac.length ≤ 4294967296) (hL:2 ^ 60 ≤ L):KC 4 L 48 [.agg [nI al,.d (.ivs rs.length (rowsD rs)),.d (.ivs ac.length (bools ac))]] (.d (.bool (eX al rs ac))):=ks rfl (fun hn => GV hn al rs ac hs ha hL) rfl (.inl rfl)
theorem aY {L:Nat} (al:Int) (rs:List (List Int)) (ac:List Bool) (hs:a8 rs) (ha:ac.length ≤ 4294967296) (hL:2 ^ 60 ≤ L):KT 4 L 48 [.agg [nI al,.d (.ivs rs.length (rowsD rs)),.d (.ivs ac.length (bools ac))]] (.d (.bool (eX al rs ac))):=fun hn => bY (GV hn al rs ac hs ha hL) rfl
theorem aR {L:Nat} {id0 g0 o0 len0:Nat} {al:Int} {ac:List Bool}:KV L 48 [.agg [nI al,.sl id0 g0 o0 len0,.d (.ivs ac.length (bools ac))]]:=aF kS
theorem aS {L:Nat} {id1 g1 o1 len1:Nat} {al:Int} {rs:List (List Int)}:KV L 48 [.agg [nI al,.d (.ivs rs.length (rowsD rs)),.sl id1 g1 o1 len1]]:=aF kS
theorem aT {L:Nat} {id1 g1 o1 len1:Nat} {id0 g0 o0 len0:Nat} {al:Int}:KV L 48 [.agg [nI al,.sl id0 g0 o0 len0,.sl id1 g1 o1 len1]]:=aF kS
def kT (a l:Int):Nat:=((aB a).filter fun m => decide (m < l)).length
def goI (al:Int) (rs:List (List Int)) (q l:Int):Int:=if iZ al l = true then (rs.getD q.toNat []).getD (kT al l) 0 else q
theorem six {l:Int} (h0:0 ≤ l) (h1:l < 6):l = 0 ∨ l = 1 ∨ l = 2 ∨ l = 3 ∨ l = 4 ∨ l = 5:=by omega
theorem JB {a l:Int} (h0:0 ≤ l) (h1:l < 6) (hb:iZ a l = true):kT a l < (aB a).length ∧ (aB a)[kT a l]? = some l:=by
 unfold kT aB
 generalize iZ a = p at *
 rcases six h0 h1 with rfl | rfl | rfl | rfl | rfl | rfl <;>
  cases h0':p 0 <;> cases h1':p 1 <;> cases h2':p 2 <;> cases h3':p 3 <;> cases h4':p 4 <;> cases h5':p 5 <;> simp_all [List.filter]
theorem nM {a l:Int}:l ∈ aB a ↔ (0 ≤ l ∧ l < 6) ∧ iZ a l = true:=by
 unfold aB
 rw [List.mem_filter]
 constructor
 ·rintro ⟨h1,h2⟩
  simp at h1
  exact ⟨by omega,h2⟩
 ·rintro ⟨h1,h2⟩
  refine ⟨?_,h2⟩
  rcases six h1.1 h1.2 with rfl | rfl | rfl | rfl | rfl | rfl <;> simp
theorem YB (a:Int):(aB a).Nodup:=by
 unfold aB
 exact List.Nodup.sublist List.filter_sublist (by decide)
def A3 (q:Nat):Nat → Nat → List Int → List Int
 | 0,_,t => t
 | j + 1,i,t => A3 q j (i + 1) (t.set (q * 6 + i) q)
def yQ (q:Nat) (row:List Int):List Int → Nat → List Int → List Int
 | [],_,t => t
 | l :: ls,i,t => yQ q row ls (i + 1) (t.set (q * 6 + l.toNat) (row.getD i 0))
def yD (ls:List Int):List (List Int) → Nat → List Int → List Int
 | [],_,t => t
 | r :: rs,q,t => yD ls rs (q + 1) (yQ q r ls 0 (A3 q 6 0 t))
def AP (al:Int) (rs:List (List Int)):List Int:=yD (aB al) rs 0 (List.replicate (rs.length * 6) 0)
theorem CH:∀ (j q i:Nat) (t:List Int),(A3 q j i t).length = t.length
 | 0,_,_,_ => rfl
 | j + 1,q,i,t => by simp [A3,CH j]
theorem Q2:∀ (ls:List Int) (q i:Nat) (row t:List Int),(yQ q row ls i t).length = t.length
 | [],_,_,_,_ => rfl
 | l :: ls,q,i,row,t => by simp [yQ,Q2 ls]
theorem RS:∀ (rs:List (List Int)) (ls:List Int) (q:Nat) (t:List Int),(yD ls rs q t).length = t.length
 | [],_,_,_ => rfl
 | r :: rs,ls,q,t => by simp [yD,RS rs,Q2,CH]
theorem qV (al:Int) (rs:List (List Int)):(AP al rs).length = rs.length * 6:=by simp [AP,RS]
theorem aEI {t:List Int} {k p:Nat} {v:Int}:(t.set k v).getD p 0 = if p = k ∧ k < t.length then v else t.getD p 0:=by
 simp only [List.getD_eq_getElem?_getD,List.getElem?_set]
 by_cases h:k = p
 ·subst h
  by_cases h2:k < t.length
  ·simp [h2]
  ·simp [h2]
 ·have h':¬ p = k:=fun e => h e.symm
  simp [h,h']
theorem aAK:∀ (j q i:Nat) (t:List Int) (p:Nat),q * 6 + i + j ≤ t.length → (A3 q j i t).getD p 0 = if q * 6 + i ≤ p ∧ p < q * 6 + i + j then (q:Int) else t.getD p 0
 | 0,q,i,t,p,h => by
  simp only [A3]
  rw [if_neg (by omega)]
 | j + 1,q,i,t,p,h => by
  simp only [A3]
  rw [aAK j q (i + 1) _ p (by simp; omega),aEI]
  by_cases h1:q * 6 + (i + 1) ≤ p ∧ p < q * 6 + (i + 1) + j
  ·rw [if_pos h1,if_pos (by omega)]
  ·rw [if_neg h1]
   by_cases h2:p = q * 6 + i
   ·rw [if_pos ⟨h2,by omega⟩,if_pos (by omega)]
   ·rw [if_neg (by omega),if_neg (by omega)]
theorem BD:∀ (ls:List Int) (q i:Nat) (row t:List Int) (p:Nat),(∀ l ∈ ls,p ≠ q * 6 + l.toNat) → (yQ q row ls i t).getD p 0 = t.getD p 0
 | [],_,_,_,_,_,_ => rfl
 | l :: ls,q,i,row,t,p,h => by
  simp only [yQ]
  rw [BD ls q (i + 1) row _ p fun m hm => h m (by simp [hm]),aEI,if_neg]
  intro hc
  exact h l (by simp) hc.1
theorem aBE:∀ (ls:List Int) (q i:Nat) (row t:List Int) (k:Nat) (l:Int),ls[k]? = some l → ls.Nodup → (∀ m ∈ ls,0 ≤ m) → q * 6 + l.toNat < t.length → (yQ q row ls i t).getD (q * 6 + l.toNat) 0 = row.getD (i + k) 0
 | l' :: ls,q,i,row,t,0,l,h,hn,hp,hl => by
  simp only [List.getElem?_cons_zero,Option.some.injEq] at h
  subst h
  simp only [yQ]
  rw [BD,aEI,if_pos ⟨rfl,hl⟩,Nat.add_zero]
  intro m hm hc
  have h1:m = l':=by
   have h2:=hp m (by simp [hm])
   have h3:=hp l' (by simp)
   omega
  subst h1
  exact (List.nodup_cons.1 hn).1 hm
 | l' :: ls,q,i,row,t,k + 1,l,h,hn,hp,hl => by
  simp only [yQ]
  rw [aBE ls q (i + 1) row _ k l (by simpa using h) (List.nodup_cons.1 hn).2 (fun m hm => hp m (by simp [hm])) (by simpa using hl)]
  congr 1
  omega
theorem aOp {a:Int}:∀ m ∈ aB a,0 ≤ m:=fun m hm => (nM.1 hm).1.1
theorem aKx {a:Int}:∀ (rs:List (List Int)) (q0:Nat) (t:List Int) (q l:Nat),l < 6 → (q0 + rs.length) * 6 ≤ t.length →
  (yD (aB a) rs q0 t).getD (q * 6 + l) 0 = if q0 ≤ q ∧ q < q0 + rs.length then (if iZ a l = true then (rs.getD (q - q0) []).getD (kT a l) 0 else (q:Int)) else t.getD (q * 6 + l) 0
 | [],q0,t,q,l,hl,ht => by
  simp only [yD]
  rw [if_neg (by simp only [List.length_nil]; omega)]
 | r :: rs,q0,t,q,l,hl,ht => by
  simp only [List.length_cons] at ht ⊢
  simp only [yD]
  rw [aKx rs (q0 + 1) _ q l hl (by rw [Q2,CH]; omega)]
  by_cases h1:q0 + 1 ≤ q ∧ q < q0 + 1 + rs.length
  ·rw [if_pos h1,if_pos (show q0 ≤ q ∧ q < q0 + (rs.length + 1) by omega)]
   obtain ⟨d,hd⟩:∃ d,q - q0 = d + 1:=⟨q - q0 - 1,by omega⟩
   rw [hd,List.getD_cons_succ,show q - (q0 + 1) = d by omega]
  ·rw [if_neg h1]
   by_cases h2:q = q0
   ·subst h2
    rw [if_pos (show q ≤ q ∧ q < q + (rs.length + 1) by omega),Nat.sub_self,List.getD_cons_zero]
    by_cases hb:iZ a l = true
    ·rw [if_pos hb]
     have hp:=JB (a:=a) (l:=l) (by omega) (by omega) hb
     have hg:=aBE (aB a) q 0 r (A3 q 6 0 t) (kT a l) l hp.2 (YB a) aOp (by rw [CH]; simp; omega)
     rw [Int.toNat_natCast] at hg
     rw [hg,Nat.zero_add]
    ·rw [if_neg hb,BD,aAK _ _ _ _ _ (by omega),if_pos (by omega)]
     intro m hm hc
     have hm2:=nM.1 hm
     have:m = l:=by omega
     subst this
     exact hb hm2.2
   ·rw [if_neg (show ¬ (q0 ≤ q ∧ q < q0 + (rs.length + 1)) by omega),BD,aAK _ _ _ _ _ (by omega),if_neg (by omega)]
    intro m hm hc
    have hm2:=nM.1 hm
    omega
theorem aP3 {al:Int} {rs:List (List Int)} {q l:Int} (h0:0 ≤ q) (h1:q < rs.length) (h2:0 ≤ l) (h3:l < 6):(AP al rs).getD (q.toNat * 6 + l.toNat) 0 = goI al rs q l:=by
 unfold AP goI
 rw [aKx rs 0 _ q.toNat l.toNat (by omega) (by simp)]
 rw [if_pos (by omega),Nat.sub_zero,show ((l.toNat:Nat):Int) = l by omega,show ((q.toNat:Nat):Int) = q by omega]
theorem aID {al:Int} {rs:List (List Int)} {q l:Int} (h0:0 ≤ q) (h1:q < rs.length) (h2:0 ≤ l) (h3:l < 6):((((ints (AP al rs)).drop (q.toNat * 6)).drop l.toNat).map A.d).head? = some (nI (goI al rs q l)):=by
 rw [List.drop_drop,aBU (by rw [qV]; omega),aP3 h0 h1 h2 h3]
theorem u_t6:env.P.underlying 111 = some (.slice 113):=kr
theorem u_a6:env.P.underlying 113 = some (.array 6 3):=kr
theorem c_a6:env.P.cellsOf 113 = 6:=kr
theorem aJD:∀ n:Nat,(List.replicate n [D.int .i64 0,.int .i64 0,.int .i64 0,.int .i64 0,.int .i64 0,.int .i64 0]).flatten = ints (List.replicate (n * 6) 0)
 | 0 => rfl
 | n + 1 => by
  rw [List.replicate_succ,List.flatten_cons,aJD n,Nat.succ_mul]
  simp [ints,List.replicate_succ]
theorem aYc {n:Int} {h:H} (h0:0 ≤ n) (h1:n ≤ 4294967296):jU env.P h 111 n n = some (.sl h.length 0 0 n.toNat,h ++ [.arr (ints (List.replicate (n.toNat * 6) 0)) 6 0]):=by
 have hm:n ≤ (b7:Nat):=by unfold b7; omega
 have he:bR env.P 111 = some 113:=kr
 have hz:bU env.P 113 = some (.agg [nI 0,nI 0,nI 0,nI 0,nI 0,nI 0]):=kr
 have hok:bT env.P 113 = true:=kr
 simp only [jU,he,hz,bA,x4,Option.map_some,hok,h0,hm,c_a6,Int.le_refl,and_self,if_true,aJD]
theorem m6 {R:Type} {L n:Nat} (hn:1 ≤ n) {al q:Int} {rs:List (List Int)} (hs:a8 rs) {r:List Int} (hq0:0 ≤ q) (hq1:q < rs.length) {k:Exit → List A → H → Option R}:∀ (j:Nat) (i:Int) (m:Nat) (t:List Int) (len:Nat) (h0:0 ≤ i) (hi:i + j = 6) (hm:j < m) (ht:t.length = rs.length * 6) (hlen:len = rs.length),
  aJ env (aA env L n) L 0 [] Bz3 (gK 1) (U2 (Z4 (Z1 (U8 (U2 (U1 (Z2 (Z1 (U4 (Z1 (U16 (U8 (U4 ([])))))))))))))) m (Y2 (.d .nils :: .sl 0 0 0 len :: .d (.ivs (aB al).length (ints (aB al))) :: nI q :: .d (.ivs r.length (ints r)) :: Y8 (Y2 (Y1 (.d (.ivs rs.length (rowsD rs)) :: nI (rs.length) :: nI q :: Y4 (nI i :: Y16 (Y8 (Y4 ([]))))))))) [.arr (ints t) 6 0] k
  = k (.exit 2) (Y2 (.d .nils :: .sl 0 0 0 rs.length :: .d (.ivs (aB al).length (ints (aB al))) :: nI q :: .d (.ivs r.length (ints r)) :: Y8 (Y2 (Y1 (.d (.ivs rs.length (rowsD rs)) :: nI (rs.length) :: nI q :: Y4 (nI 6 :: Y16 (Y8 (Y4 ([]))))))))) [.arr (ints (A3 q.toNat j i.toNat t)) 6 0]:=by
 intro j
 have hrl:=hs.1
 induction j with
 | zero =>
  intro i m t len h0 hi hm ht hlen
  obtain _ | m:=m; omega
  obtain rfl:i = 6:=by omega
  rw [NS]
  simp only [K7,Tryz.f117,SLM,simprocAttr]
  simp -implicitDefEqProofs (maxSteps:=2000000) (disch:=try exact Dz) only [↓DN,↓kAsg,↓kRet,UP,simprocAttr,↓bI,LA,Int.lt_irrefl,hlen]
  rfl
 | succ j ih =>
  intro i m t len h0 hi hm ht hlen
  obtain _ | m:=m; omega
  subst hlen
  have hc:i < 6:=by omega
  have hk:q.toNat * 6 + i.toNat < t.length:=by omega
  have e1:(i + 1).toNat = i.toNat + 1:=by omega
  have e2:((q.toNat:Nat):Int) = q:=by omega
  rw [NS]
  simp only [K7,Tryz.f117,SLM,simprocAttr]
  simp -implicitDefEqProofs (maxSteps:=2000000) (disch:=try exact Dz) only [↓DN,↓kAsg,↓kRet,UP,simprocAttr,↓bI,LA,hc,hq1,u_t6,u_a6,c_a6,WH,iY,↓CW,↓ih]
  rw [e1]
  simp only [A3,e2]
theorem aOz {t:List Int} {k:Nat} {v:Int} (h:k < t.length):List.take k (ints t) ++ [.int .i64 v] ++ List.drop (k + 1) (ints t) = ints (t.set k v):=aEp h
theorem aNm {a:Int} {i:Nat} (h:i < (aB a).length):(aB a).drop i = (aB a).getD i 0 :: (aB a).drop (i + 1):=dB h
theorem uQ {R:Type} {L n:Nat} (hn:1 ≤ n) {al q:Int} {rs:List (List Int)} (hs:a8 rs) {r:List Int} (hr:r.length ≤ 4294967296) (hrl2:(aB al).length ≤ r.length) (hq0:0 ≤ q) (hq1:q < rs.length) {k:Exit → List A → H → Option R}:∀ (j:Nat) (i:Int) (m:Nat) (t:List Int) (len:Nat) (h0:0 ≤ i) (hi:i + j = (aB al).length) (hm:j < m) (ht:t.length = rs.length * 6) (hlen:len = rs.length),
  aJ env (aA env L n) L 0 [] Bz3 (gK 2) (U2 (Z4 (Z1 (U8 (U2 (U1 (Z2 (Z1 (U4 (Z1 (U8 (U1 (Z2 (Z1 (U16 ([])))))))))))))))) m (Y2 (.d .nils :: .sl 0 0 0 len :: .d (.ivs (aB al).length (ints (aB al))) :: nI q :: .d (.ivs r.length (ints r)) :: Y8 (Y2 (Y1 (.d (.ivs rs.length (rowsD rs)) :: nI (rs.length) :: nI q :: Y4 (nI 6 :: Y8 (Y1 (.d (.ivs (aB al).length (ints (aB al))) :: nI ((aB al).length) :: nI i :: Y16 ([]))))))))) [.arr (ints t) 6 0] k
  = k (.exit 4) (Y2 (.d .nils :: .sl 0 0 0 rs.length :: .d (.ivs (aB al).length (ints (aB al))) :: nI q :: .d (.ivs r.length (ints r)) :: Y8 (Y2 (Y1 (.d (.ivs rs.length (rowsD rs)) :: nI (rs.length) :: nI q :: Y4 (nI 6 :: Y8 (Y1 (.d (.ivs (aB al).length (ints (aB al))) :: nI ((aB al).length) :: nI ((aB al).length) :: Y16 ([]))))))))) [.arr (ints (yQ q.toNat r ((aB al).drop i.toNat) i.toNat t)) 6 0]:=by
 intro j
 have hrl:=hs.1
 have hll:=eF al
 induction j with
 | zero =>
  intro i m t len h0 hi hm ht hlen
  obtain _ | m:=m; omega
  obtain rfl:i = (aB al).length:=by omega
  rw [P2]
  simp only [KO,Tryz.f117,SLM,simprocAttr]
  simp -implicitDefEqProofs (maxSteps:=2000000) (disch:=try exact Dz) only [↓DN,↓kAsg,↓kRet,UP,simprocAttr,↓bI,↓m6,LA,Int.lt_irrefl,hlen]
  simp only [Int.toNat_natCast,List.drop_length,yQ]
 | succ j ih =>
  intro i m t len h0 hi hm ht hlen
  obtain _ | m:=m; omega
  subst hlen
  have hc:i < (aB al).length:=by omega
  have hk1:i.toNat < (aB al).length:=by omega
  have hk2:i.toNat < r.length:=by omega
  have hv:=aWa eC hk1
  have hv6:(aB al).getD i.toNat 0 < 6:=by omega
  have hv0:=hv.1
  have hk:q.toNat * 6 + ((aB al).getD i.toNat 0).toNat < t.length:=by omega
  have e1:(i + 1).toNat = i.toNat + 1:=by omega
  rw [P2]
  simp only [KO,Tryz.f117,SLM,simprocAttr]
  simp -implicitDefEqProofs (maxSteps:=2000000) (disch:=try exact Dz) only [↓DN,↓kAsg,↓kRet,UP,simprocAttr,↓bI,↓m6,LA,hc,hq1,dP,u_t6,u_a6,c_a6,WH,iY,↓CW,aOz,↓ih]
  rw [aNm hk1,e1]
  simp only [yQ]
def pP (w:Nat) (rs:List (List Int)):Prop:=∀ r ∈ rs,r.length = w
theorem aIH {w:Nat} {rs:List (List Int)} (h:pP w rs) {k:Nat} (hk:k < rs.length):(rs.getD k []).length = w:=by
 rw [List.getD_eq_getElem?_getD,List.getElem?_eq_getElem hk]
 exact h _ (List.getElem_mem hk)
theorem PK {R:Type} {L n:Nat} (hL:2 ^ 60 ≤ L) (hn:1 ≤ n) {al:Int} {rs:List (List Int)} (hs:a8 rs) (hw:pP (aB al).length rs) {k:Exit → List A → H → Option R}:∀ (j:Nat) (i:Int) (m:Nat) (t:List Int) (len:Nat) (h0:0 ≤ i) (hi:i + j = rs.length) (hm:j < m) (ht:t.length = rs.length * 6) (hlen:len = rs.length),
  aJ env (aA env L n) L 0 [] Bz3 (gK 0) (U2 (Z2 (Z1 (U8 (U4 (U1 (Z2 (Z1 (U32 (U1 ([]))))))))))) m (Y2 (.d .nils :: .sl 0 0 0 len :: .d (.ivs (aB al).length (ints (aB al))) :: Y8 (Y4 (Y1 (.d (.ivs rs.length (rowsD rs)) :: nI (rs.length) :: nI i :: Y32 (Y1 ([]))))))) [.arr (ints t) 6 0] k
  = k (.exit 0) (Y2 (.d .nils :: .sl 0 0 0 rs.length :: .d (.ivs (aB al).length (ints (aB al))) :: Y8 (Y4 (Y1 (.d (.ivs rs.length (rowsD rs)) :: nI (rs.length) :: nI (rs.length) :: Y32 (Y1 ([]))))))) [.arr (ints (yD (aB al) (rs.drop i.toNat) i.toNat t)) 6 0]:=by
 intro j
 have hrl:=hs.1
 have hll:=eF al
 induction j with
 | zero =>
  intro i m t len h0 hi hm ht hlen
  obtain _ | m:=m; omega
  obtain rfl:i = rs.length:=by omega
  rw [OP]
  simp only [K8,Tryz.f117,SLM,simprocAttr]
  simp -implicitDefEqProofs (maxSteps:=2000000) (disch:=try exact Dz) only [↓DN,↓kAsg,↓kRet,UP,simprocAttr,↓bI,↓m6,↓uQ,LA,Int.lt_irrefl,hlen]
  simp only [Int.toNat_natCast,List.drop_length,yD]
 | succ j ih =>
  intro i m t len h0 hi hm ht hlen
  obtain _ | m:=m; omega
  subst hlen
  have hc:i < rs.length:=by omega
  have hk:i.toNat < rs.length:=by omega
  have hrow:=BU hs hk
  have hrw:=aIH hw hk
  have e1:(i + 1).toNat = i.toNat + 1:=by omega
  have loop_a1:=fun {R:Type} {k:Exit → List A → H → Option R} => m6 (R:=R) (L:=L) (n:=n) hn (al:=al) (q:=i) (r:=rs.getD i.toNat []) hs h0 hc (k:=k) 6 0 L t rs.length (by omega) (by omega) (by omega) ht rfl
  have loop_a2:=fun {R:Type} {k:Exit → List A → H → Option R} => uQ (R:=R) (L:=L) (n:=n) hn (al:=al) (q:=i) hs (r:=rs.getD i.toNat []) hrow (by omega) h0 hc (k:=k) (aB al).length 0 L (A3 i.toNat 6 0 t) rs.length (by omega) (by omega) (by omega) (by rw [CH]; exact ht) rfl
  simp only [Int.toNat_zero,List.drop_zero] at loop_a1 loop_a2
  have ht2:(yQ i.toNat (rs.getD i.toNat []) (aB al) 0 (A3 i.toNat 6 0 t)).length = rs.length * 6:=by rw [Q2,CH]; exact ht
  clear hrw
  rw [OP]
  simp only [K8,Tryz.f117,SLM,simprocAttr]
  simp -implicitDefEqProofs (maxSteps:=2000000) (disch:=try exact Dz) only [↓DN,↓kAsg,↓kRet,UP,simprocAttr,↓bI,↓m6,↓uQ,LA,hc,dP,jQ,kF,↓loop_a1,↓loop_a2,↓ih]
  rw [dB hk (d:=[]),e1]
  simp only [yD]
theorem aL3 {L n:Nat} (hn:3 ≤ n) (al:Int) (rs:List (List Int)) (z:Nat) (cs:List D) (hs:a8 rs) (hw:pP (aB al).length rs) (hL:2 ^ 60 ≤ L):aA env L n 117 [.agg [nI al,.d (.ivs rs.length (rowsD rs)),.d (.ivs z cs)]] [] = some (.d (.ivs rs.length (ints (AP al rs))),[]):=by
 have hrl:=hs.1
 have loop_a:=fun {R:Type} {n:Nat} (hn:1 ≤ n) {k:Exit → List A → H → Option R} => PK (R:=R) (L:=L) (n:=n) hL hn (al:=al) hs hw (k:=k) rs.length 0 L (List.replicate (rs.length * 6) 0) rs.length (by omega) (by omega) (by omega) (by simp) rfl
 simp only [Int.toNat_zero,List.drop_zero] at loop_a
 have htl:(AP al rs).length = rs.length * 6:=qV al rs
 have htl2:rs.length * 6 ≤ (yD (aB al) rs 0 (List.replicate (rs.length * 6) 0)).length:=by rw [RS]; simp
 have htk:(ints (yD (aB al) rs 0 (List.replicate (rs.length * 6) 0))).take (rs.length * 6) = ints (yD (aB al) rs 0 (List.replicate (rs.length * 6) 0)):=cQ (by rw [RS]; simp)
 unfold AP
 obtain _ | n:=n; omega
 rw [aNy]
 simp only [aDX,Tryz.f117,SLM,simprocAttr]
 simp -implicitDefEqProofs (maxSteps:=2000000) (disch:=try exact Dz) only [↓DN,↓kAsg,↓kRet,UP,simprocAttr,↓bI,↓PK,↓m6,↓uQ,LA,dP,jQ,kF,u_t6,u_a6,c_a6,↓aYc,↓loop_a,htk,eE,htl2]
theorem aBW {L:Nat} (al:Int) (rs:List (List Int)) (z:Nat) (cs:List D) (hs:a8 rs) (hw:pP (aB al).length rs) (hL:2 ^ 60 ≤ L):KC 3 L 117 [.agg [nI al,.d (.ivs rs.length (rowsD rs)),.d (.ivs z cs)]] (.d (.ivs rs.length (ints (AP al rs)))):=ks rfl (fun hn => aL3 hn al rs z cs hs hw hL) rfl (.inr rfl)
def cntB (a:Int):Nat → Int → Nat
 | 0,_ => 0
 | j + 1,i => (if iZ a i = true then 1 else 0) + cntB a j (i + 1)
theorem aPJ {a l:Int} (h0:0 ≤ l) (h1:l < 6):cntB a l.toNat 0 = kT a l:=by
 unfold kT aB
 generalize hp:iZ a = p
 have e:∀ i,iZ a i = p i:=fun i => by rw [hp]
 rcases six h0 h1 with rfl | rfl | rfl | rfl | rfl | rfl <;>
  simp only [cntB,e,show (0:Int).toNat = 0 from rfl,show (1:Int).toNat = 1 from rfl,show (2:Int).toNat = 2 from rfl,show (3:Int).toNat = 3 from rfl,show (4:Int).toNat = 4 from rfl,show (5:Int).toNat = 5 from rfl,Int.zero_add,Int.reduceAdd] <;>
  cases h0':p 0 <;> cases h1':p 1 <;> cases h2':p 2 <;> cases h3':p 3 <;> cases h4':p 4 <;> cases h5':p 5 <;> simp_all [List.filter]
theorem UZ {R:Type} {L n:Nat} (hn:1 ≤ n) {a l:Int} (hl:l < 6) {k:Exit → List A → H → Option R}:∀ (j:Nat) (i c:Int) (m:Nat) (h0:0 ≤ i) (hi:i + j = l) (hm:j < m) (hc0:0 ≤ c) (hc1:c ≤ i),
  aJ env (aA env L n) L 0 [] Bz44 (xG 0) (Z2 (U2 (Z2 (Z1 (U8 (U2 (U1 ([])))))))) m (nI a :: nI l :: Y2 (nI 0 :: nI c :: nI i :: Y8 (Y2 (Y1 ([]))))) [] k
  = k (.exit 0) (nI a :: nI l :: Y2 (nI 0 :: nI (c + cntB a j i) :: nI l :: Y8 (Y2 (Y1 ([]))))) []:=by
 intro j
 induction j with
 | zero =>
  intro i c m h0 hi hm hc0 hc1
  obtain _ | m:=m; omega
  obtain rfl:i = l:=by omega
  rw [BG]
  simp only [BC,Tryz.f179,SLM,simprocAttr]
  simp -implicitDefEqProofs (maxSteps:=2000000) (disch:=try exact Dz) only [↓DN,↓kAsg,↓kRet,UP,simprocAttr,↓lI,Int.lt_irrefl]
  simp only [cntB,Int.natCast_zero,Int.add_zero]
 | succ j ih =>
  intro i c m h0 hi hm hc0 hc1
  obtain _ | m:=m; omega
  have hc:i < l:=by omega
  cases hb:iZ a i with
  | true =>
   have e:c + 1 + (cntB a j (i + 1):Int) = c + cntB a (j + 1) i:=by simp only [cntB,hb,if_true]; omega
   rw [BG]
   simp only [BC,Tryz.f179,SLM,simprocAttr]
   simp -implicitDefEqProofs (maxSteps:=2000000) (disch:=try exact Dz) only [↓DN,↓kAsg,↓kRet,UP,simprocAttr,↓lI,hc,hb,↓ih]
   rw [e]
  | false =>
   have e:c + (cntB a j (i + 1):Int) = c + cntB a (j + 1) i:=by simp only [cntB,hb,Bool.false_eq_true,if_false]; omega
   rw [BG]
   simp only [BC,Tryz.f179,SLM,simprocAttr]
   simp -implicitDefEqProofs (maxSteps:=2000000) (disch:=try exact Dz) only [↓DN,↓kAsg,↓kRet,UP,simprocAttr,↓lI,hc,hb,↓ih]
   rw [e]
theorem aLN {L n:Nat} (hn:2 ≤ n) (a l:Int) (h0:0 ≤ l) (h1:l < 6) (hL:2 ^ 60 ≤ L):aA env L n 179 [nI a,nI l] [] = some (nI (kT a l),[]):=by
 have loop_a:=fun {R:Type} {n:Nat} (hn:1 ≤ n) {k:Exit → List A → H → Option R} => UZ (R:=R) (L:=L) hn (a:=a) h1 (k:=k) l.toNat 0 0 L (by omega) (by omega) (by omega) (by omega) (by omega)
 rw [aPJ h0 h1] at loop_a
 obtain _ | n:=n; omega
 rw [aNf]
 simp only [aDY,Tryz.f179,SLM,simprocAttr]
 simp -implicitDefEqProofs (maxSteps:=2000000) (disch:=try exact Dz) only [↓DN,↓kAsg,↓kRet,UP,simprocAttr,↓lI,↓UZ,↓loop_a,Int.zero_add]
theorem aBt {L:Nat} (a l:Int) (h0:0 ≤ l) (h1:l < 6) (hL:2 ^ 60 ≤ L):KC 2 L 179 [nI a,nI l] (nI (kT a l)):=ks rfl (fun hn => aLN hn a l h0 h1 hL) rfl (.inl rfl)
theorem aYz {al q l:Int} {rs:List (List Int)} (h:iZ al l = false):goI al rs q l = q:=by
 unfold goI; rw [h]; rfl
theorem aCs {al q l:Int} {rs:List (List Int)} (h:iZ al l = true):goI al rs q l = (rs.getD q.toNat []).getD (kT al l) 0:=by
 unfold goI; rw [if_pos h]
theorem aJ2 {L n:Nat} (hn:3 ≤ n) (al q l:Int) (rs:List (List Int)) (z:Nat) (cs:List D) (hs:a8 rs) (hw:pP (aB al).length rs) (hq0:0 ≤ q) (hq1:q < rs.length) (h0:0 ≤ l) (h1:l < 6) (hL:2 ^ 60 ≤ L):aA env L n 163 [.agg [nI al,.d (.ivs rs.length (rowsD rs)),.d (.ivs z cs)],nI q,nI l] [] = some (nI (goI al rs q l),[]):=by
 have hrl:=hs.1
 have hk:q.toNat < rs.length:=by omega
 have hrow:=BU hs hk
 have hrw:=aIH hw hk
 cases hb:iZ al l with
 | false =>
  rw [aYz hb]
  clear hrw
  obtain _ | n:=n; omega
  rw [aKO]
  simp only [aEG,Tryz.f163,SLM,simprocAttr]
  simp -implicitDefEqProofs (maxSteps:=2000000) (disch:=try exact Dz) only [↓DN,↓kAsg,↓kRet,UP,simprocAttr,↓lI,↓aBt,LA,hb]
 | true =>
  rw [aCs hb]
  have hp:=(JB h0 h1 hb).1
  have hp2:kT al l < (rs.getD q.toNat []).length:=by omega
  have hp3:(kT al l:Int) < (rs.getD q.toNat []).length:=by omega
  have hp4:((kT al l:Nat):Int).toNat = kT al l:=Int.toNat_natCast _
  clear hrw hp
  obtain _ | n:=n; omega
  rw [aKO]
  simp only [aEG,Tryz.f163,SLM,simprocAttr]
  simp -implicitDefEqProofs (maxSteps:=2000000) (disch:=try exact Dz) only [↓DN,↓kAsg,↓kRet,UP,simprocAttr,↓lI,↓aBt,LA,hb,dP,jQ,kF,iY,hp4]
theorem aSF {L:Nat} (al q l:Int) (rs:List (List Int)) (z:Nat) (cs:List D) (hs:a8 rs) (hw:pP (aB al).length rs) (hq0:0 ≤ q) (hq1:q < rs.length) (h0:0 ≤ l) (h1:l < 6) (hL:2 ^ 60 ≤ L):KC 3 L 163 [.agg [nI al,.d (.ivs rs.length (rowsD rs)),.d (.ivs z cs)],nI q,nI l] (nI (goI al rs q l)):=ks rfl (fun hn => aJ2 hn al q l rs z cs hs hw hq0 hq1 h0 h1 hL) rfl (.inl rfl)
theorem aTi {L:Nat} (al q l:Int) (rs:List (List Int)) (z:Nat) (cs:List D) (hs:a8 rs) (hw:pP (aB al).length rs) (hq0:0 ≤ q) (hq1:q < rs.length) (h0:0 ≤ l) (h1:l < 6) (hL:2 ^ 60 ≤ L):KT 3 L 163 [.agg [nI al,.d (.ivs rs.length (rowsD rs)),.d (.ivs z cs)],nI q,nI l] (nI (goI al rs q l)):=fun hn => bY (aJ2 hn al q l rs z cs hs hw hq0 hq1 h0 h1 hL) rfl
theorem aN9 {L:Nat} {id0 g0 o0 len0:Nat} {al q l:Int} {z:Nat} {cs:List D}:KV L 163 [.agg [nI al,.sl id0 g0 o0 len0,.d (.ivs z cs)],nI q,nI l]:=aF AU
theorem aOC {L:Nat} {id1 g1 o1 len1:Nat} {al q l:Int} {rs:List (List Int)}:KV L 163 [.agg [nI al,.d (.ivs rs.length (rowsD rs)),.sl id1 g1 o1 len1],nI q,nI l]:=aF AU
theorem aOc {L:Nat} {id1 g1 o1 len1:Nat} {id0 g0 o0 len0:Nat} {al q l:Int}:KV L 163 [.agg [nI al,.sl id0 g0 o0 len0,.sl id1 g1 o1 len1],nI q,nI l]:=aF AU
theorem aA5 {l:List (List Int)} {r:List Int} {z:Nat} (h:z = r.length):rowsD l ++ [.ivs z (ints r)] = rowsD (l ++ [r]):=by
 subst h
 simp [rowsD,rowD]
theorem aKu:rowsD [] = []:=rfl
theorem aSK:bools [] = []:=rfl
section
def IU (mvs:List (List Int)) (dist:List Int) (d:Int):Bool:=mvs.any fun r => r.any fun m => decide (dist.getD m.toNat 0 = d)
def fP (tab:List (List (List Int))) (d:Int):Nat → Nat → List Int × Bool → List Int × Bool
 | 0,_,q => q
 | j + 1,i,q => if q.1.getD i 0 < 0 ∧ IU (tab.getD i []) q.1 (d - 1) = true then fP tab d j (i + 1) (q.1.set i d,true) else fP tab d j (i + 1) q
def fJ (tab:List (List (List Int))):Nat → Int → List Int → List Int
 | 0,_,dist => dist
 | j + 1,d,dist => if (fP tab d dist.length 0 (dist,false)).2 = true then fJ tab j (d + 1) (fP tab d dist.length 0 (dist,false)).1 else (fP tab d dist.length 0 (dist,false)).1
def addC (dist:List Int) (d:Int):List Int → List Int → List Int
 | [],out => out
 | m :: ms,out => if dist.getD m.toNat 0 = d ∧ m ∉ out then addC dist d ms (out ++ [m]) else addC dist d ms out
def bS (tab:List (List (List Int))) (dist:List Int) (k:Nat) (d:Int):List Int → List Int → List Int
 | [],out => out
 | v :: vs,out => bS tab dist k d vs (addC dist d ((tab.getD v.toNat []).getD k []) out)
def WT (tab:List (List (List Int))) (dist:List Int) (at_:List Int) (d:Int):Nat → Nat → Nat × List Int
 | 0,k => (k,[])
 | j + 1,k => if bS tab dist k d at_ [] = [] then WT tab dist at_ d j (k + 1) else (k,bS tab dist k d at_ [])
def sT (tab:List (List (List Int))) (dist:List Int) (ls:List Int):Nat → List Int → List Int
 | 0,_ => []
 | d + 1,at_ => ls.getD (WT tab dist at_ d (ls.length + 1) 0).1 0 :: sT tab dist ls d (WT tab dist at_ d (ls.length + 1) 0).2
def aHv (tab:List (List (List Int))) (ls:List Int) (dist:List Int) (s:Int):List Int × Bool :=
 if dist.getD s.toNat 0 < 0 then ([],false) else (sT tab dist ls (dist.getD s.toNat 0).toNat [s],true)
section
variable {nx:Int → Int → List Int} {gl:Int → Bool} {ls:List Int} {aG:Nat} {tab:List (List (List Int))}
def Away (nx:Int → Int → List Int) (ls:List Int) (gl:Int → Bool) (v:Int) (d:Nat):Prop:=∃ w g,w.length = d ∧ Path nx ls v w g ∧ gl g = true
def Far (nx:Int → Int → List Int) (ls:List Int) (gl:Int → Bool) (v:Int) (d:Nat):Prop:=Away nx ls gl v d ∧ ∀ e,e < d → ¬ Away nx ls gl v e
theorem aBF {v:Int}:Away nx ls gl v 0 ↔ gl v = true:=by
 constructor
 ·rintro ⟨w,g,h1,h2,h3⟩
  have:w = []:=List.length_eq_zero_iff.1 h1
  subst this
  rw [show v = g from h2]; exact h3
 ·intro h; exact ⟨[],v,rfl,rfl,h⟩
theorem RV {v:Int} {d:Nat}:Away nx ls gl v (d + 1) ↔ ∃ l ∈ ls,∃ m ∈ nx v l,Away nx ls gl m d:=by
 constructor
 ·rintro ⟨w,g,h1,h2,h3⟩
  cases w with
  | nil => simp at h1
  | cons l w =>
   obtain ⟨hl,m,hm,hp⟩:=h2
   exact ⟨l,hl,m,hm,w,g,by simpa using h1,hp,h3⟩
 ·rintro ⟨l,hl,m,hm,w,g,h1,h2,h3⟩
  exact ⟨l :: w,g,by simp [h1],⟨hl,m,hm,h2⟩,h3⟩
theorem M1 {v:Int} {d e:Nat} (h:Far nx ls gl v d) (k:Far nx ls gl v e):d = e:=by
 rcases Nat.lt_trichotomy d e with h1 | h1 | h1
 ·exact (k.2 d h1 h.1).elim
 ·exact h1
 ·exact (h.2 e h1 k.1).elim
theorem aU5 {v:Int}:∀ {d:Nat},Away nx ls gl v d → ∃ e,e ≤ d ∧ Far nx ls gl v e:=by
 intro d
 induction d using Nat.strongRecOn with
 | _ d ih =>
  intro h
  by_cases hd:∃ e,e < d ∧ Away nx ls gl v e
  ·obtain ⟨e,h1,h2⟩:=hd
   obtain ⟨f,h3,h4⟩:=ih e h1 h2
   exact ⟨f,by omega,h4⟩
  ·exact ⟨d,Nat.le_refl _,h,fun e he ha => hd ⟨e,he,ha⟩⟩
theorem XV {v:Int} {d:Nat} (h:Far nx ls gl v (d + 1)):∃ l ∈ ls,∃ m ∈ nx v l,Far nx ls gl m d:=by
 obtain ⟨l,hl,m,hm,ha⟩:=RV.1 h.1
 refine ⟨l,hl,m,hm,ha,fun e he h2 => ?_⟩
 exact h.2 (e + 1) (by omega) (RV.2 ⟨l,hl,m,hm,h2⟩)
structure Tab (nx:Int → Int → List Int) (ls:List Int) (aG:Nat) (tab:List (List (List Int))):Prop where
 len:tab.length = aG
 row:∀ v:Nat,v < aG → tab.getD v [] = ls.map (nx v)
 rng:∀ v c:Int,0 ≤ v → v < aG → c ∈ ls → ∀ m ∈ nx v c,0 ≤ m ∧ m < aG
def aHq (nx:Int → Int → List Int) (ls:List Int) (gl:Int → Bool) (aG:Nat) (dist:List Int) (d:Nat):Prop :=
 dist.length = aG ∧ ∀ i:Nat,i < aG → (∃ k:Nat,k ≤ d ∧ dist.getD i 0 = k ∧ Far nx ls gl i k) ∨ (dist.getD i 0 = -1 ∧ ∀ e,e ≤ d → ¬ Away nx ls gl i e)
theorem aBo {dist:List Int} {d:Nat} (h:aHq nx ls gl aG dist d) {v:Int} {k:Nat} (h0:0 ≤ v) (h1:v < aG) (hk:k ≤ d):dist.getD v.toNat 0 = k ↔ Far nx ls gl v k:=by
 have hv:((v.toNat:Nat):Int) = v:=by omega
 rcases h.2 v.toNat (by omega) with ⟨e,h2,h3,h4⟩ | ⟨h3,h4⟩
 ·rw [hv] at h4
  constructor
  ·intro h5
   have:e = k:=by omega
   rw [← this]; exact h4
  ·intro h5
   rw [h3,M1 h4 h5]
 ·rw [hv] at h4
  constructor
  ·intro h5; omega
  ·intro h5; exact (h4 k hk h5.1).elim
theorem aVb (ht:Tab nx ls aG tab) {dist old:List Int} {d:Nat} (hk:aHq nx ls gl aG old d) {v:Nat} (hv:v < aG) (hs:∀ i:Nat,i < aG → (dist.getD i 0 = d ↔ old.getD i 0 = d)) :
  IU (tab.getD v []) dist d = true ↔ ∃ l ∈ ls,∃ m ∈ nx v l,Far nx ls gl m d:=by
 unfold IU
 rw [ht.row v hv]
 simp only [List.any_map,List.any_eq_true,Function.comp,decide_eq_true_eq]
 constructor
 ·rintro ⟨l,hl,m,hm,h⟩
  have hr:=ht.rng v l (by omega) (by omega) hl m hm
  rw [hs m.toNat (by omega)] at h
  exact ⟨l,hl,m,hm,(aBo hk hr.1 hr.2 (Nat.le_refl _)).1 h⟩
 ·rintro ⟨l,hl,m,hm,h⟩
  have hr:=ht.rng v l (by omega) (by omega) hl m hm
  refine ⟨l,hl,m,hm,?_⟩
  rw [hs m.toNat (by omega)]
  exact (aBo hk hr.1 hr.2 (Nat.le_refl _)).2 h
theorem aK1 {α:Type} {l:List α} {i j:Nat} {x d:α} (h:i < l.length):(l.set i x).getD j d = if i = j then x else l.getD j d:=by
 rw [List.getD_eq_getElem?_getD,List.getElem?_set,List.getD_eq_getElem?_getD]
 by_cases hij:i = j
 ·subst hij; simp [h]
 ·simp [hij]
open Classical in
theorem aZc (ht:Tab nx ls aG tab) {old:List Int} {d:Nat} (hk:aHq nx ls gl aG old d):∀ (j i:Nat) (q:List Int × Bool),i + j = aG → q.1.length = aG → (∀ x:Nat,x < aG → q.1.getD x 0 = if x < i ∧ Far nx ls gl x (d + 1) then ((d + 1:Nat):Int) else old.getD x 0) → (q.2 = true ↔ ∃ x:Nat,x < i ∧ Far nx ls gl x (d + 1)) →
  (fP tab ((d + 1:Nat):Int) j i q).1.length = aG ∧ (∀ x:Nat,x < aG → (fP tab ((d + 1:Nat):Int) j i q).1.getD x 0 = if Far nx ls gl x (d + 1) then ((d + 1:Nat):Int) else old.getD x 0) ∧ ((fP tab ((d + 1:Nat):Int) j i q).2 = true ↔ ∃ x:Nat,x < aG ∧ Far nx ls gl x (d + 1)):=by
 intro j
 induction j with
 | zero =>
  intro i q hi hl hq hb
  obtain rfl:i = aG:=by omega
  refine ⟨hl,fun x hx => ?_,hb⟩
  have:=hq x hx
  simp only [hx,true_and] at this
  exact this
 | succ j ih =>
  intro i q hi hl hq hb
  have hit:i < aG:=by omega
  have e1:((d + 1:Nat):Int) - 1 = (d:Int):=by omega
  have hqi:q.1.getD i 0 = old.getD i 0:=by
   rw [hq i hit,if_neg (by omega)]
  have hnear:=aVb ht hk hit (dist:=q.1) fun x hx => by
   rw [hq x hx]
   split
   ·rename_i h
    constructor
    ·intro h2; omega
    ·intro h2
     have:=(aBo hk (v:=(x:Int)) (by omega) (by omega) (Nat.le_refl d)).1 (by simpa using h2)
     have:=M1 h.2 this
     omega
   ·exact Iff.rfl
  have hfar:(q.1.getD i 0 < 0 ∧ IU (tab.getD i []) q.1 (((d + 1:Nat):Int) - 1) = true) ↔ Far nx ls gl i (d + 1):=by
   rw [e1,hnear,hqi]
   constructor
   ·rintro ⟨h1,l,hl,m,hm,h2⟩
    rcases hk.2 i hit with ⟨k,_,h3,_⟩ | ⟨_,h4⟩
    ·omega
    ·exact ⟨RV.2 ⟨l,hl,m,hm,h2.1⟩,fun e he => h4 e (by omega)⟩
   ·intro h
    refine ⟨?_,XV h⟩
    rcases hk.2 i hit with ⟨k,h2,h3,h4⟩ | ⟨h3,_⟩
    ·have:=M1 h h4
     omega
    ·omega
  unfold fP
  by_cases hc:Far nx ls gl i (d + 1)
  ·rw [if_pos (hfar.2 hc)]
   refine ih (i + 1) _ (by omega) (by simpa using hl) (fun x hx => ?_) ?_
   ·simp only
    rw [aK1 (by omega)]
    by_cases hix:i = x
    ·subst hix
     rw [if_pos rfl,if_pos ⟨by omega,hc⟩]
    ·rw [if_neg hix,hq x hx]
     by_cases hxi:x < i
     ·simp only [hxi,show x < i + 1 by omega,true_and]
     ·simp only [hxi,show ¬ x < i + 1 by omega,false_and,if_false]
   ·simp only [true_iff]
    exact ⟨i,by omega,hc⟩
  ·rw [if_neg (fun h => hc (hfar.1 h))]
   refine ih (i + 1) q (by omega) hl (fun x hx => ?_) ?_
   ·rw [hq x hx]
    by_cases hix:i = x
    ·subst hix
     simp only [hc,and_false,if_false]
    ·by_cases hxi:x < i
     ·simp only [hxi,show x < i + 1 by omega,true_and]
     ·simp only [hxi,show ¬ x < i + 1 by omega,false_and,if_false]
   ·rw [hb]
    constructor
    ·rintro ⟨x,h1,h2⟩; exact ⟨x,by omega,h2⟩
    ·rintro ⟨x,h1,h2⟩
     by_cases hix:x = i
     ·subst hix; exact (hc h2).elim
     ·exact ⟨x,by omega,h2⟩
def Full (nx:Int → Int → List Int) (ls:List Int) (gl:Int → Bool) (aG:Nat) (dist:List Int):Prop :=
 dist.length = aG ∧ ∀ i:Nat,i < aG → (∃ k:Nat,dist.getD i 0 = k ∧ Far nx ls gl i k) ∨ (dist.getD i 0 = -1 ∧ ∀ e,¬ Away nx ls gl i e)
theorem YD:∀ {l:List Int} {i:Nat} {x:Int},l.getD i 0 < 0 → i < l.length → 0 ≤ x → (l.set i x).countP (· < 0) + 1 = l.countP (· < 0)
 | [],i,x,h,hi,hx => by simp at hi
 | a :: l,0,x,h,hi,hx => by
  simp at h
  simp only [List.set_cons_zero,List.countP_cons]
  simp [h,show ¬ x < 0 by omega]
 | a :: l,i + 1,x,h,hi,hx => by
  have ih:=YD (l:=l) (i:=i) (x:=x) (by simpa using h) (by simpa using hi) hx
  simp only [List.set_cons_succ,List.countP_cons]
  omega
theorem aCC {d:Int} (hd:0 ≤ d):∀ (j i:Nat) (q:List Int × Bool),i + j = q.1.length → (fP tab d j i q).1.countP (· < 0) ≤ q.1.countP (· < 0) ∧ ((fP tab d j i q).2 = true → q.2 = true ∨ (fP tab d j i q).1.countP (· < 0) < q.1.countP (· < 0))
 | 0,i,q,h => ⟨Nat.le_refl _,fun h => .inl h⟩
 | j + 1,i,q,h => by
  unfold fP
  split
  ·rename_i hc
   have h1:=YD (l:=q.1) (i:=i) (x:=d) hc.1 (by omega) hd
   obtain ⟨h2,h3⟩:=aCC hd j (i + 1) (q.1.set i d,true) (by simp; omega)
   simp only at h2
   exact ⟨by omega,fun _ => .inr (by omega)⟩
  ·exact aCC hd j (i + 1) q (by omega)
open Classical in
theorem aUA (ht:Tab nx ls aG tab):∀ (j d:Nat) (dist:List Int),aHq nx ls gl aG dist d → dist.countP (· < 0) < j → Full nx ls gl aG (fJ tab j ((d + 1:Nat):Int) dist)
 | 0,d,dist,hk,hj => by omega
 | j + 1,d,dist,hk,hj => by
  have h0:∀ x:Nat,x < aG → dist.getD x 0 = if x < 0 ∧ Far nx ls gl x (d + 1) then ((d + 1:Nat):Int) else dist.getD x 0:=fun x hx => by
   rw [if_neg (by omega)]
  obtain ⟨h1,h2,h3⟩:=aZc ht hk aG 0 (dist,false) (by omega) hk.1 h0 (by simp)
  have hc:=aCC (tab:=tab) (d:=((d + 1:Nat):Int)) (by omega) dist.length 0 (dist,false) (by simp)
  unfold fJ
  rw [← hk.1] at h1 h2 h3
  generalize fP tab ((d + 1:Nat):Int) dist.length 0 (dist,false) = r at *
  rw [hk.1] at h1 h2 h3
  split
  ·rename_i hb
   have hlt:=hc.2 hb
   simp only [Bool.false_eq_true,false_or] at hlt
   refine aUA ht j (d + 1) r.1 ⟨h1,fun i hi => ?_⟩ (by omega)
   rw [h2 i hi]
   split
   ·rename_i hf
    exact .inl ⟨d + 1,Nat.le_refl _,rfl,hf⟩
   ·rename_i hf
    rcases hk.2 i hi with ⟨k,g1,g2,g3⟩ | ⟨g1,g2⟩
    ·exact .inl ⟨k,by omega,g2,g3⟩
    ·refine .inr ⟨g1,fun e he ha => ?_⟩
     by_cases hed:e = d + 1
     ·subst hed
      exact hf ⟨ha,fun e' he' => g2 e' (by omega)⟩
     ·exact g2 e (by omega) ha
  ·rename_i hb
   have hno:∀ i:Nat,i < aG → ¬ Far nx ls gl i (d + 1):=fun i hi hf => hb (h3.2 ⟨i,hi,hf⟩)
   have hnone:∀ e:Nat,∀ i:Nat,i < aG → d < e → ¬ Far nx ls gl i e:=by
    intro e
    induction e with
    | zero => intro i hi he; omega
    | succ e ih =>
     intro i hi he hf
     by_cases hed:e = d
     ·subst hed; exact hno i hi hf
     ·obtain ⟨l,hl,m,hm,hfm⟩:=XV hf
      have hr:=ht.rng i l (by omega) (by omega) hl m hm
      refine ih m.toNat (by omega) (by omega) ?_
      rw [show ((m.toNat:Nat):Int) = m by omega]; exact hfm
   refine ⟨h1,fun i hi => ?_⟩
   rw [h2 i hi,if_neg (hno i hi)]
   rcases hk.2 i hi with ⟨k,g1,g2,g3⟩ | ⟨g1,g2⟩
   ·exact .inl ⟨k,g2,g3⟩
   ·refine .inr ⟨g1,fun e ha => ?_⟩
    obtain ⟨f,h4,h5⟩:=aU5 ha
    by_cases hfd:f ≤ d
    ·exact g2 f hfd h5.1
    ·exact hnone f i hi (by omega) h5
theorem aFm {dist:List Int} {d:Int}:∀ (ms out:List Int) (x:Int),x ∈ addC dist d ms out ↔ x ∈ out ∨ (x ∈ ms ∧ dist.getD x.toNat 0 = d)
 | [],out,x => by simp [addC]
 | m :: ms,out,x => by
  unfold addC
  split
  ·rename_i h
   rw [aFm ms,List.mem_append,List.mem_singleton,List.mem_cons]
   constructor
   ·rintro ((k | rfl) | k)
    ·exact .inl k
    ·exact .inr ⟨.inl rfl,h.1⟩
    ·exact .inr ⟨.inr k.1,k.2⟩
   ·rintro (k | ⟨rfl | k,k2⟩)
    ·exact .inl (.inl k)
    ·exact .inl (.inr rfl)
    ·exact .inr ⟨k,k2⟩
  ·rename_i h
   rw [aFm ms,List.mem_cons]
   constructor
   ·rintro (k | k)
    ·exact .inl k
    ·exact .inr ⟨.inr k.1,k.2⟩
   ·rintro (k | ⟨rfl | k,k2⟩)
    ·exact .inl k
    ·by_cases hx:x ∈ out
     ·exact .inl hx
     ·exact (h ⟨k2,hx⟩).elim
    ·exact .inr ⟨k,k2⟩
theorem WL {dist:List Int} {k:Nat} {d:Int}:∀ (vs out:List Int) (x:Int),x ∈ bS tab dist k d vs out ↔ x ∈ out ∨ (∃ v ∈ vs,x ∈ (tab.getD v.toNat []).getD k [] ∧ dist.getD x.toNat 0 = d)
 | [],out,x => by simp [bS]
 | v :: vs,out,x => by
  unfold bS
  rw [WL vs,aFm]
  constructor
  ·rintro ((h | h) | ⟨u,h1,h2⟩)
   ·exact .inl h
   ·exact .inr ⟨v,List.mem_cons_self,h⟩
   ·exact .inr ⟨u,List.mem_cons_of_mem _ h1,h2⟩
  ·rintro (h | ⟨u,h1,h2⟩)
   ·exact .inl (.inl h)
   ·rcases List.mem_cons.1 h1 with rfl | h1
    ·exact .inl (.inr h2)
    ·exact .inr ⟨u,h1,h2⟩
theorem aIg {dist at_:List Int} {d:Int}:∀ (j k:Nat),(∃ e,k ≤ e ∧ e < k + j ∧ bS tab dist e d at_ [] ≠ []) → ∃ e,k ≤ e ∧ e < k + j ∧ WT tab dist at_ d j k = (e,bS tab dist e d at_ []) ∧ bS tab dist e d at_ [] ≠ [] ∧ ∀ f,k ≤ f → f < e → bS tab dist f d at_ [] = []
 | 0,k,⟨e,h1,h2,_⟩ => by omega
 | j + 1,k,⟨e,h1,h2,h3⟩ => by
  unfold WT
  split
  ·rename_i hc
   have hek:e ≠ k:=fun h => h3 (h ▸ hc)
   obtain ⟨f,g1,g2,g3,g4,g5⟩:=aIg j (k + 1) ⟨e,by omega,by omega,h3⟩
   refine ⟨f,by omega,by omega,g3,g4,fun x hx1 hx2 => ?_⟩
   by_cases hxk:x = k
   ·subst hxk; exact hc
   ·exact g5 x (by omega) hx2
  ·rename_i hc
   exact ⟨k,Nat.le_refl _,by omega,rfl,hc,fun f h h' => by omega⟩
theorem NM {dist:List Int} (h:Full nx ls gl aG dist) {v:Int} {k:Nat} (h0:0 ≤ v) (h1:v < aG):dist.getD v.toNat 0 = k ↔ Far nx ls gl v k:=by
 have hv:((v.toNat:Nat):Int) = v:=by omega
 rcases h.2 v.toNat (by omega) with ⟨e,h3,h4⟩ | ⟨h3,h4⟩
 ·rw [hv] at h4
  constructor
  ·intro h5
   have:e = k:=by omega
   rw [← this]; exact h4
  ·intro h5
   rw [h3,M1 h4 h5]
 ·rw [hv] at h4
  constructor
  ·intro h5; omega
  ·intro h5; exact (h4 k h5.1).elim
theorem aCl (ht:Tab nx ls aG tab) {v:Int} {k:Nat} (h0:0 ≤ v) (h1:v < aG) (hk:k < ls.length):(tab.getD v.toNat []).getD k [] = nx v (ls.getD k 0):=by
 rw [ht.row v.toNat (by omega),show ((v.toNat:Nat):Int) = v by omega,List.getD_eq_getElem?_getD,List.getElem?_map,List.getElem?_eq_getElem hk,List.getD_eq_getElem?_getD,List.getElem?_eq_getElem hk]
 rfl
theorem aIt:∀ {l:List Int} {i j:Nat},l.Pairwise (· < ·) → i < j → j < l.length → l.getD i 0 < l.getD j 0
 | [],i,j,_,_,h => by simp at h
 | a :: l,0,j + 1,h,_,hj => by
  have hj':j < l.length:=by simpa using hj
  have:=(List.pairwise_cons.1 h).1 (l.getD j 0) (by rw [List.getD_eq_getElem?_getD,List.getElem?_eq_getElem hj']; exact List.getElem_mem hj')
  simpa using this
 | a :: l,i + 1,j + 1,h,hij,hj => by
  have:=aIt (List.pairwise_cons.1 h).2 (i:=i) (j:=j) (by omega) (by simpa using hj)
  simpa using this
theorem aR9 (ht:Tab nx ls aG tab) {dist:List Int} (hf:Full nx ls gl aG dist) (ha:ls.Pairwise (· < ·)):∀ (d:Nat) (at_:List Int),(∀ v ∈ at_,(0 ≤ v ∧ v < aG) ∧ Far nx ls gl v d) → at_ ≠ [] →
  (sT tab dist ls d at_).length = d ∧ (∃ v ∈ at_,∃ g,Path nx ls v (sT tab dist ls d at_) g ∧ gl g = true) ∧ ∀ w v g,v ∈ at_ → w.length = d → Path nx ls v w g → gl g = true → ¬ vZ w (sT tab dist ls d at_):=by
 intro d
 induction d with
 | zero =>
  intro at_ hat hne
  refine ⟨rfl,?_,fun w v g _ hw _ _ h => ?_⟩
  ·cases at_ with
   | nil => exact (hne rfl).elim
   | cons v vs =>
    have:=(hat v List.mem_cons_self).2
    exact ⟨v,List.mem_cons_self,v,rfl,aBF.1 this.1⟩
  ·have:w = []:=List.length_eq_zero_iff.1 hw
   subst this
   exact h
 | succ d ih =>
  intro at_ hat hne
  have hmem:∀ k x,k < ls.length → (x ∈ bS tab dist k d at_ [] ↔ ∃ v ∈ at_,x ∈ nx v (ls.getD k 0) ∧ Far nx ls gl x d):=by
   intro k x hk
   rw [WL]
   simp only [List.not_mem_nil,false_or]
   constructor
   ·rintro ⟨v,hv,h1,h2⟩
    have hr:=(hat v hv).1
    rw [aCl ht hr.1 hr.2 hk] at h1
    have hl:ls.getD k 0 ∈ ls:=by rw [List.getD_eq_getElem?_getD,List.getElem?_eq_getElem hk]; exact List.getElem_mem hk
    have hx:=ht.rng v _ hr.1 hr.2 hl x h1
    exact ⟨v,hv,h1,(NM hf hx.1 hx.2).1 h2⟩
   ·rintro ⟨v,hv,h1,h2⟩
    have hr:=(hat v hv).1
    have hl:ls.getD k 0 ∈ ls:=by rw [List.getD_eq_getElem?_getD,List.getElem?_eq_getElem hk]; exact List.getElem_mem hk
    have hx:=ht.rng v _ hr.1 hr.2 hl x h1
    exact ⟨v,hv,by rw [aCl ht hr.1 hr.2 hk]; exact h1,(NM hf hx.1 hx.2).2 h2⟩
  have hidx:∀ l ∈ ls,∃ k,k < ls.length ∧ ls.getD k 0 = l:=by
   intro l hl
   obtain ⟨k,hk,h⟩:=List.getElem_of_mem hl
   exact ⟨k,hk,by rw [List.getD_eq_getElem?_getD,List.getElem?_eq_getElem hk,h]; rfl⟩
  obtain ⟨v0,hv0⟩:∃ v,v ∈ at_:=by
   cases at_ with
   | nil => exact (hne rfl).elim
   | cons v vs => exact ⟨v,List.mem_cons_self⟩
  obtain ⟨l0,hl0,m0,hm0,hfm0⟩:=XV (hat v0 hv0).2
  obtain ⟨k0,hk0,e0⟩:=hidx l0 hl0
  have hne0:bS tab dist k0 d at_ [] ≠ []:=by
   intro h
   have:=(hmem k0 m0 hk0).2 ⟨v0,hv0,by rw [e0]; exact hm0,hfm0⟩
   rw [h] at this; cases this
  obtain ⟨e,_,h2,h3,h4,h5⟩:=aIg (tab:=tab) (dist:=dist) (at_:=at_) (d:=d) (ls.length + 1) 0 ⟨k0,by omega,by omega,hne0⟩
  have hel:e < ls.length:=by
   apply Nat.lt_of_not_le
   intro h
   by_cases he0:k0 < e
   ·exact hne0 (h5 k0 (by omega) he0)
   ·omega
  have hel2:ls.getD e 0 ∈ ls:=by rw [List.getD_eq_getElem?_getD,List.getElem?_eq_getElem hel]; exact List.getElem_mem hel
  unfold sT
  rw [h3]
  simp only
  have hat2:∀ x ∈ bS tab dist e d at_ [],(0 ≤ x ∧ x < aG) ∧ Far nx ls gl x d:=by
   intro x hx
   obtain ⟨v,hv,g1,g2⟩:=(hmem e x hel).1 hx
   have hr:=(hat v hv).1
   exact ⟨ht.rng v _ hr.1 hr.2 hel2 x g1,g2⟩
  obtain ⟨i1,⟨m,hm,g,i2,i3⟩,i4⟩:=ih _ hat2 h4
  refine ⟨by simp [i1],?_,?_⟩
  ·obtain ⟨v,hv,g1,g2⟩:=(hmem e m hel).1 hm
   exact ⟨v,hv,g,⟨hel2,m,g1,i2⟩,i3⟩
  ·intro w v g' hv hw hp hg hlt
   cases w with
   | nil => simp at hw
   | cons l w =>
    obtain ⟨hl,m',hm',hp'⟩:=hp
    have hfm:Far nx ls gl m' d:=by
     refine ⟨⟨w,g',by simpa using hw,hp',hg⟩,fun x hx hax => ?_⟩
     exact (hat v hv).2.2 (x + 1) (by omega) (RV.2 ⟨l,hl,m',hm',hax⟩)
    obtain ⟨k,hk,ek⟩:=hidx l hl
    have hmc:m' ∈ bS tab dist k d at_ []:=(hmem k m' hk).2 ⟨v,hv,by rw [ek]; exact hm',hfm⟩
    have hke:e ≤ k:=by
     apply Nat.le_of_not_lt
     intro h
     rw [h5 k (by omega) h] at hmc; cases hmc
    rcases hlt with h | ⟨h,h'⟩
    ·by_cases hek:e = k
     ·subst hek; omega
     ·have:=aIt ha (i:=e) (j:=k) (by omega) hk
      omega
    ·have:e = k:=by
      apply Nat.le_antisymm hke
      apply Nat.le_of_not_lt
      intro hc
      have:=aIt ha (i:=e) (j:=k) hc hk
      omega
     subst this
     exact i4 w m' g' hmc (by simpa using hw) hp' hg h'
theorem aWd (ht:Tab nx ls aG tab) {dist:List Int} (hf:Full nx ls gl aG dist) (ha:ls.Pairwise (· < ·)) {s:Int} (h0:0 ≤ s) (h1:s < aG):M0 (Hits nx ls [s] gl) (aHv tab ls dist s):=by
 have hv:((s.toNat:Nat):Int) = s:=by omega
 unfold aHv
 rcases hf.2 s.toNat (by omega) with ⟨k,h2,h3⟩ | ⟨h2,h3⟩
 ·rw [hv] at h3
  rw [h2,if_neg (by omega),Int.toNat_natCast]
  obtain ⟨i1,⟨v,hv1,g,i2,i3⟩,i4⟩:=aR9 ht hf ha k [s] (fun v hv => by simp at hv; subst hv; exact ⟨⟨h0,h1⟩,h3⟩) (by simp)
  have:v = s:=by simpa using hv1
  subst this
  refine .inl ⟨rfl,⟨g,⟨v,by simp,i2⟩,i3⟩,?_⟩
  rintro x ⟨u,⟨y,hy,hp⟩,hg⟩ hlt
  have:y = v:=by simpa using hy
  subst this
  have hlt':slt x (sT tab dist ls k [y]):=hlt
  rcases hlt' with h | ⟨h,h'⟩
  ·exact h3.2 x.length (by omega) ⟨x,u,rfl,hp,hg⟩
  ·exact i4 x y u (by simp) (by omega) hp hg h'
 ·rw [hv] at h3
  rw [h2,if_pos (by omega)]
  refine .inr ⟨rfl,?_⟩
  rintro w ⟨u,⟨y,hy,hp⟩,hg⟩
  have:y = s:=by simpa using hy
  subst this
  exact h3 w.length ⟨w,u,rfl,hp,hg⟩
end
end
end Ev
end Go.Proofs.YtejmccgfigiadaaGreat
