/-
  Products as the reference searches them, walked: where a letter leads.
-/
import Derived.Test.YtppdfjdfjfoddaaDoorNetW
import Derived.Test.YtppdfjdfjfoddaaDoorAutoL
set_option linter.unusedSimpArgs false
set_option linter.unusedVariables false
set_option maxRecDepth 8000
set_option maxHeartbeats 4000000
namespace Go.Proofs.YtppdfjdfjfoddaaDoor
namespace Ev
theorem aJG {R:Type} {L n:Nat} (hn:1 ≤ n) {l:List Int} {x:Int} (hl:l.length ≤ 4294967290) {k:Exit → List A → H → Option R}:∀ (j i m:Nat) (hi:i + j = l.length) (hm:j < m),
  aO env (aA env L n) L 0 [] (U2 (Z2 (U2 (Z8 (Z4 ([])))))) (FV 0) (Z2 (U2 (Z2 (U8 (U4 ([])))))) m (.d (.ivs l.length (ints l)) :: .d (.int .i64 x) :: Y2 (.d (.bool false) :: .d (.int .i64 ((i:Int))) :: Y8 (Y4 ([])))) [] k
  = match seek (fun i => decide (l.getD i 0 = x)) j i with
   | none => k (.exit 0) (.d (.ivs l.length (ints l)) :: .d (.int .i64 x) :: Y2 (.d (.bool false) :: .d (.int .i64 (l.length)) :: Y8 (Y4 ([])))) []
   | some q => k .ret (.d (.ivs l.length (ints l)) :: .d (.int .i64 x) :: Y2 (.d (.bool true) :: .d (.int .i64 ((q:Int))) :: Y8 (Y4 ([])))) []:=by
 intro j
 induction j with
 | zero =>
  intro i m hi hm
  obtain _ | m:=m; omega
  obtain rfl:i = l.length:=by omega
  rw [GM]
  simp only [IC,Tryd.f97,SLM,simprocAttr]
  simp -implicitDefEqProofs (maxSteps:=2000000) (disch:=try exact Dz) only [↓DN,↓kAsg,↓kRet,UP,simprocAttr,Int.lt_irrefl]
  rfl
 | succ j ih =>
  intro i m hi hm
  obtain _ | m:=m; omega
  have hk:i < l.length:=by omega
  have hc:(i:Int) < l.length:=by omega
  have hi0:(0:Int) ≤ i:=by omega
  by_cases he:l.getD i 0 = x
  ·rw [pH (p:=fun i => decide (l.getD i 0 = x)) (by simpa using he)]
   rw [GM]
   simp only [IC,Tryd.f97,SLM,simprocAttr]
   simp -implicitDefEqProofs (maxSteps:=2000000) (disch:=try exact Dz) only [↓DN,↓kAsg,↓kRet,UP,simprocAttr,hc,hi0,he,Int.toNat_natCast]
  ·rw [sS (p:=fun i => decide (l.getD i 0 = x)) (by simpa using he)]
   have ih':=ih (i + 1) m (by omega) (by omega)
   rw [show ((i + 1:Nat):Int) = (i:Int) + 1 by omega] at ih'
   clear ih
   rw [GM]
   simp only [IC,Tryd.f97,SLM,simprocAttr]
   simp -implicitDefEqProofs (maxSteps:=2000000) (disch:=try exact Dz) only [↓DN,↓kAsg,↓kRet,UP,simprocAttr,hc,hi0,he,Int.toNat_natCast,↓ih']
theorem aF2 {L n:Nat} (hn:2 ≤ n) (l:List Int) (x:Int) (hl:l.length ≤ 4294967290) (hL:2 ^ 60 ≤ L):aA env L n 97 [.d (.ivs l.length (ints l)),.d (.int .i64 x)] [] = some (.d (.bool (decide (x ∈ l))),[]):=by
 have loop_c:=fun {R:Type} {n:Nat} {k:Exit → List A → H → Option R} (hn:1 ≤ n) => @aJG R L n hn l x hl k l.length 0 L (by omega) (by omega)
 simp only [Int.natCast_zero] at loop_c
 cases hs:seek (fun i => decide (l.getD i 0 = x)) l.length 0 with
 | none =>
  have hx:¬ x ∈ l:=by
   intro hx
   obtain ⟨q,hq,e⟩:=List.getElem_of_mem hx
   have:=E5.1 hs q (by omega) (by omega)
   simp only [decide_eq_false_iff_not] at this
   exact this (by rw [List.getD_eq_getElem?_getD,List.getElem?_eq_getElem hq,e]; rfl)
  simp only [hs] at loop_c
  obtain _ | n:=n; omega
  rw [aFV]
  simp only [aBj,Tryd.f97,SLM,simprocAttr]
  simp -implicitDefEqProofs (maxSteps:=2000000) (disch:=try exact Dz) only [↓DN,↓kAsg,↓kRet,UP,simprocAttr,↓loop_c,hx]
 | some q =>
  obtain ⟨h1,h2,h3,_⟩:=ON hs
  have hx:x ∈ l:=by
   simp only [decide_eq_true_eq] at h3
   rw [← h3]
   exact pG (by omega)
  simp only [hs] at loop_c
  obtain _ | n:=n; omega
  rw [aFV]
  simp only [aBj,Tryd.f97,SLM,simprocAttr]
  simp -implicitDefEqProofs (maxSteps:=2000000) (disch:=try exact Dz) only [↓DN,↓kAsg,↓kRet,UP,simprocAttr,↓loop_c,hx]
theorem uY {R:Type} {L n:Nat} {hq:H} {k:A → H → Option R} (hn:2 ≤ n) (l:List Int) (x:Int) (hl:l.length ≤ 4294967290) (hL:2 ^ 60 ≤ L):aL env (aA env L n) hq 97 [.d (.ivs l.length (ints l)),.d (.int .i64 x)] k = k (.d (.bool (decide (x ∈ l)))) hq :=
 a5 rfl (aF2 hn l x hl hL) rfl (.inl rfl)
theorem FK {R:Type} {L n:Nat} {k:A → Option R} (hn:2 ≤ n) (l:List Int) (x:Int) (hl:l.length ≤ 4294967290) (hL:2 ^ 60 ≤ L):bL (aA env L n) 97 [.d (.ivs l.length (ints l)),.d (.int .i64 x)] k = k (.d (.bool (decide (x ∈ l)))) :=
 fR (aF2 hn l x hl hL) rfl
theorem qY {R:Type} {L n:Nat} {hq:H} {k:A → H → Option R} {id0 g0 o0 len0:Nat} {x:Int}:aL env (aA env L n) hq 97 [.sl id0 g0 o0 len0,.d (.int .i64 x)] k = match box (cZ hq [.sl id0 g0 o0 len0,.d (.int .i64 x)]) with
  | .mk (some fs) => bL (aA env L n) 97 fs fun r => k r hq
  | _ => none:=aW PH
def RW (dist r:List Int) (d:Int):Nat → Bool:=fun i => decide (dist.getD (r.getD i 0).toNat 0 = d)
def N3 (dist:List Int) (mvs:List (List Int)) (d:Int):Nat → Bool:=fun k => (seek (RW dist (mvs.getD k []) d) (mvs.getD k []).length 0).isSome
theorem aId {α:Type} {l:List α} {p:α → Bool} {q:Nat → Bool} {x:α} (hq:∀ i,i < l.length → q i = p (l.getD i x)):(seek q l.length 0).isSome = l.any p:=by
 rw [Bool.eq_iff_iff,Option.isSome_iff_exists,List.any_eq_true]
 constructor
 ·rintro ⟨r,hr⟩
  obtain ⟨_,h2,h3,_⟩:=ON hr
  refine ⟨l.getD r x,?_,by rw [← hq r (by omega)]; exact h3⟩
  rw [List.getD_eq_getElem?_getD,List.getElem?_eq_getElem (by omega)]
  exact List.getElem_mem (by omega)
 ·rintro ⟨y,hy,hp⟩
  obtain ⟨r,hr,e⟩:=List.getElem_of_mem hy
  cases hs:seek q l.length 0 with
  | some z => exact ⟨z,rfl⟩
  | none =>
   have:=E5.1 hs r (by omega) (by omega)
   rw [hq r hr,List.getD_eq_getElem?_getD,List.getElem?_eq_getElem hr,Option.getD_some,e,hp] at this
   cases this
theorem aMP {dist:List Int} {mvs:List (List Int)} {d:Int}:(seek (N3 dist mvs d) mvs.length 0).isSome = ES mvs dist d:=by
 unfold ES
 refine aId (x:=[]) fun k hk => ?_
 unfold N3
 exact aId (x:=0) fun i hi => rfl
theorem aBV {R:Type} {L n:Nat} (hn:1 ≤ n) {mvs:List (List Int)} {dist:List Int} {d:Int} {q:Nat} (hq:q < mvs.length) (hl:mvs.length ≤ 4294967290) (hr:(mvs.getD q []).length ≤ 4294967290) (hd:dist.length ≤ 4294967290) (hm':∀ x ∈ mvs.getD q [],0 ≤ x ∧ x < dist.length) {k:Exit → List A → H → Option R}:∀ (j i m:Nat) (hi:i + j = (mvs.getD q []).length) (hm:j < m),
  aO env (aA env L n) L 0 [] (U2 (U1 (Z2 (Z1 (U2 (U1 (Z16 (Z8 (Z2 (Z1 ([]))))))))))) (nQ 1) (Z2 (Z1 (U2 (U1 (Z2 (Z1 (U16 (U8 (U2 (U1 ([]))))))))))) m (.d (.ivs mvs.length (aJ mvs)) :: .d (.ivs dist.length (ints dist)) :: .d (.int .i64 d) :: Y2 (Y1 (.d (.bool false) :: .d (.int .i64 ((q:Int))) :: .d (.int .i64 ((i:Int))) :: Y16 (Y8 (Y2 (Y1 ([]))))))) [] k
  = match seek (RW dist (mvs.getD q []) d) j i with
   | none => k (.exit 2) (.d (.ivs mvs.length (aJ mvs)) :: .d (.ivs dist.length (ints dist)) :: .d (.int .i64 d) :: Y2 (Y1 (.d (.bool false) :: .d (.int .i64 ((q:Int))) :: .d (.int .i64 ((mvs.getD q []).length)) :: Y16 (Y8 (Y2 (Y1 ([]))))))) []
   | some r => k .ret (.d (.ivs mvs.length (aJ mvs)) :: .d (.ivs dist.length (ints dist)) :: .d (.int .i64 d) :: Y2 (Y1 (.d (.bool true) :: .d (.int .i64 ((q:Int))) :: .d (.int .i64 ((r:Int))) :: Y16 (Y8 (Y2 (Y1 ([]))))))) []:=by
 intro j
 have hcq:(q:Int) < mvs.length:=by omega
 have hq0:(0:Int) ≤ q:=by omega
 induction j with
 | zero =>
  intro i m hi hm
  obtain _ | m:=m; omega
  obtain rfl:i = (mvs.getD q []).length:=by omega
  rw [CD]
  simp only [BZ,Tryd.f96,SLM,simprocAttr]
  simp -implicitDefEqProofs (maxSteps:=2000000) (disch:=try exact Dz) only [↓DN,↓kAsg,↓kRet,UP,simprocAttr,LA,hcq,hq0,Int.toNat_natCast,Int.lt_irrefl]
  rfl
 | succ j ih =>
  intro i m hi hm
  obtain _ | m:=m; omega
  have hk:i < (mvs.getD q []).length:=by omega
  have hc:(i:Int) < (mvs.getD q []).length:=by omega
  have hi0:(0:Int) ≤ i:=by omega
  obtain ⟨b1,b2⟩:=hm' _ (pG hk)
  have b3:((mvs.getD q []).getD i 0).toNat < dist.length:=by omega
  by_cases he:dist.getD ((mvs.getD q []).getD i 0).toNat 0 = d
  ·rw [pH (p:=RW dist (mvs.getD q []) d) (by simpa [RW] using he)]
   rw [CD]
   simp only [BZ,Tryd.f96,SLM,simprocAttr]
   simp -implicitDefEqProofs (maxSteps:=2000000) (disch:=try exact Dz) only [↓DN,↓kAsg,↓kRet,UP,simprocAttr,LA,hcq,hq0,hc,hi0,b1,b2,he,Int.toNat_natCast]
  ·rw [sS (p:=RW dist (mvs.getD q []) d) (by simpa [RW] using he)]
   have ih':=ih (i + 1) m (by omega) (by omega)
   rw [show ((i + 1:Nat):Int) = (i:Int) + 1 by omega] at ih'
   clear ih
   rw [CD]
   simp only [BZ,Tryd.f96,SLM,simprocAttr]
   simp -implicitDefEqProofs (maxSteps:=2000000) (disch:=try exact Dz) only [↓DN,↓kAsg,↓kRet,UP,simprocAttr,LA,hcq,hq0,hc,hi0,b1,b2,he,Int.toNat_natCast,↓ih']
theorem aCW {R:Type} {L n:Nat} (hn:1 ≤ n) (hL:2 ^ 60 ≤ L) {mvs:List (List Int)} {dist:List Int} {d:Int} (hl:mvs.length ≤ 4294967290) (hr:∀ r ∈ mvs,r.length ≤ 4294967290 ∧ ∀ x ∈ r,0 ≤ x ∧ x < dist.length) (hd:dist.length ≤ 4294967290) {k:Exit → List A → H → Option R}:∀ (j q m:Nat) (hi:q + j = mvs.length) (hm:j < m),
  aO env (aA env L n) L 0 [] (U2 (U1 (Z2 (Z1 (U2 (U1 (Z16 (Z8 (Z2 (Z1 ([]))))))))))) (nQ 0) (Z2 (Z1 (U2 (U1 (Z2 (U16 (U8 (U4 ([]))))))))) m (.d (.ivs mvs.length (aJ mvs)) :: .d (.ivs dist.length (ints dist)) :: .d (.int .i64 d) :: Y2 (Y1 (.d (.bool false) :: .d (.int .i64 ((q:Int))) :: Y16 (Y8 (Y4 ([])))))) [] k
  = match seek (N3 dist mvs d) j q with
   | none => k (.exit 0) (.d (.ivs mvs.length (aJ mvs)) :: .d (.ivs dist.length (ints dist)) :: .d (.int .i64 d) :: Y2 (Y1 (.d (.bool false) :: .d (.int .i64 (mvs.length)) :: Y16 (Y8 (Y4 ([])))))) []
   | some r => k .ret (.d (.ivs mvs.length (aJ mvs)) :: .d (.ivs dist.length (ints dist)) :: .d (.int .i64 d) :: Y2 (Y1 (.d (.bool true) :: .d (.int .i64 ((r:Int))) :: Y16 (Y8 (Y4 ([])))))) []:=by
 intro j
 induction j with
 | zero =>
  intro q m hi hm
  obtain _ | m:=m; omega
  obtain rfl:q = mvs.length:=by omega
  rw [B6]
  simp only [BC,Tryd.f96,SLM,simprocAttr]
  simp -implicitDefEqProofs (maxSteps:=2000000) (disch:=try exact Dz) only [↓DN,↓kAsg,↓kRet,UP,simprocAttr,LA,Int.lt_irrefl]
  rfl
 | succ j ih =>
  intro q m hi hm
  obtain _ | m:=m; omega
  have hk:q < mvs.length:=by omega
  have hc:(q:Int) < mvs.length:=by omega
  have hq0:(0:Int) ≤ q:=by omega
  have hmem:mvs.getD q [] ∈ mvs:=by rw [List.getD_eq_getElem?_getD,List.getElem?_eq_getElem hk]; exact List.getElem_mem hk
  obtain ⟨r1,r2⟩:=hr _ hmem
  have loop_c:=fun {R:Type} {n:Nat} {k:Exit → List A → H → Option R} (hn:1 ≤ n) => @aBV R L n hn mvs dist d q hk hl r1 hd r2 k (mvs.getD q []).length 0 L (by omega) (by omega)
  simp only [Int.natCast_zero] at loop_c
  cases hs:seek (RW dist (mvs.getD q []) d) (mvs.getD q []).length 0 with
  | some z =>
   rw [pH (p:=N3 dist mvs d) (by unfold N3; rw [hs]; rfl)]
   simp only [hs] at loop_c
   rw [B6]
   simp only [BC,Tryd.f96,SLM,simprocAttr]
   simp -implicitDefEqProofs (maxSteps:=2000000) (disch:=try exact Dz) only [↓DN,↓kAsg,↓kRet,UP,simprocAttr,LA,hc,hq0,Int.toNat_natCast,↓loop_c]
  | none =>
   rw [sS (p:=N3 dist mvs d) (by unfold N3; rw [hs]; rfl)]
   simp only [hs] at loop_c
   have ih':=ih (q + 1) m (by omega) (by omega)
   rw [show ((q + 1:Nat):Int) = (q:Int) + 1 by omega] at ih'
   clear ih
   rw [B6]
   simp only [BC,Tryd.f96,SLM,simprocAttr]
   simp -implicitDefEqProofs (maxSteps:=2000000) (disch:=try exact Dz) only [↓DN,↓kAsg,↓kRet,UP,simprocAttr,LA,hc,hq0,Int.toNat_natCast,↓loop_c,↓ih']
theorem aAf {L n:Nat} (hn:2 ≤ n) (mvs:List (List Int)) (dist:List Int) (d:Int) (hl:mvs.length ≤ 4294967290) (hr:∀ r ∈ mvs,r.length ≤ 4294967290 ∧ ∀ x ∈ r,0 ≤ x ∧ x < dist.length) (hd:dist.length ≤ 4294967290) (hL:2 ^ 60 ≤ L):aA env L n 96 [.d (.ivs mvs.length (aJ mvs)),.d (.ivs dist.length (ints dist)),.d (.int .i64 d)] [] = some (.d (.bool (ES mvs dist d)),[]):=by
 have loop_c:=fun {R:Type} {n:Nat} {k:Exit → List A → H → Option R} (hn:1 ≤ n) => @aCW R L n hn hL mvs dist d hl hr hd k mvs.length 0 L (by omega) (by omega)
 simp only [Int.natCast_zero] at loop_c
 rw [← aMP]
 cases hs:seek (N3 dist mvs d) mvs.length 0 with
 | none =>
  simp only [hs] at loop_c
  obtain _ | n:=n; omega
  rw [ZD]
  simp only [R1,Tryd.f96,SLM,simprocAttr]
  simp -implicitDefEqProofs (maxSteps:=2000000) (disch:=try exact Dz) only [↓DN,↓kAsg,↓kRet,UP,simprocAttr,↓loop_c,Option.isSome_none]
 | some q =>
  simp only [hs] at loop_c
  obtain _ | n:=n; omega
  rw [ZD]
  simp only [R1,Tryd.f96,SLM,simprocAttr]
  simp -implicitDefEqProofs (maxSteps:=2000000) (disch:=try exact Dz) only [↓DN,↓kAsg,↓kRet,UP,simprocAttr,↓loop_c,Option.isSome_some]
theorem oZ {R:Type} {L n:Nat} {hq:H} {k:A → H → Option R} (hn:2 ≤ n) (mvs:List (List Int)) (dist:List Int) (d:Int) (hl:mvs.length ≤ 4294967290) (hr:∀ r ∈ mvs,r.length ≤ 4294967290 ∧ ∀ x ∈ r,0 ≤ x ∧ x < dist.length) (hd:dist.length ≤ 4294967290) (hL:2 ^ 60 ≤ L):aL env (aA env L n) hq 96 [.d (.ivs mvs.length (aJ mvs)),.d (.ivs dist.length (ints dist)),.d (.int .i64 d)] k = k (.d (.bool (ES mvs dist d))) hq :=
 a5 rfl (aAf hn mvs dist d hl hr hd hL) rfl (.inl rfl)
theorem tT {R:Type} {L n:Nat} {k:A → Option R} (hn:2 ≤ n) (mvs:List (List Int)) (dist:List Int) (d:Int) (hl:mvs.length ≤ 4294967290) (hr:∀ r ∈ mvs,r.length ≤ 4294967290 ∧ ∀ x ∈ r,0 ≤ x ∧ x < dist.length) (hd:dist.length ≤ 4294967290) (hL:2 ^ 60 ≤ L):bL (aA env L n) 96 [.d (.ivs mvs.length (aJ mvs)),.d (.ivs dist.length (ints dist)),.d (.int .i64 d)] k = k (.d (.bool (ES mvs dist d))) :=
 fR (aAf hn mvs dist d hl hr hd hL) rfl
theorem mL {R:Type} {L n:Nat} {hq:H} {k:A → H → Option R} {id0 g0 o0 len0:Nat} {dist:List Int} {d:Int}:aL env (aA env L n) hq 96 [.sl id0 g0 o0 len0,.d (.ivs dist.length (ints dist)),.d (.int .i64 d)] k = match box (cZ hq [.sl id0 g0 o0 len0,.d (.ivs dist.length (ints dist)),.d (.int .i64 d)]) with
  | .mk (some fs) => bL (aA env L n) 96 fs fun r => k r hq
  | _ => none:=aW tF
theorem mP {R:Type} {L n:Nat} {hq:H} {k:A → H → Option R} {id1 g1 o1 len1:Nat} {mvs:List (List Int)} {d:Int}:aL env (aA env L n) hq 96 [.d (.ivs mvs.length (aJ mvs)),.sl id1 g1 o1 len1,.d (.int .i64 d)] k = match box (cZ hq [.d (.ivs mvs.length (aJ mvs)),.sl id1 g1 o1 len1,.d (.int .i64 d)]) with
  | .mk (some fs) => bL (aA env L n) 96 fs fun r => k r hq
  | _ => none:=aW tF
theorem mO {R:Type} {L n:Nat} {hq:H} {k:A → H → Option R} {id1 g1 o1 len1:Nat} {id0 g0 o0 len0:Nat} {d:Int}:aL env (aA env L n) hq 96 [.sl id0 g0 o0 len0,.sl id1 g1 o1 len1,.d (.int .i64 d)] k = match box (cZ hq [.sl id0 g0 o0 len0,.sl id1 g1 o1 len1,.d (.int .i64 d)]) with
  | .mk (some fs) => bL (aA env L n) 96 fs fun r => k r hq
  | _ => none:=aW tF
theorem aFW {L n:Nat} (hn:1 ≤ n) (N:Net) (states:List Int) (i:Nat) (hi:i < N.us.length) (h1:N.ps.length ≤ 1000) (h2:N.us.length ≤ 1000) (hs:N.ps.length + i < states.length) (hs2:states.length ≤ 4000) (ha:(N.us.getD i default).ac.length ≤ 4294967290) (hq0:0 ≤ states.getD (N.ps.length + i) 0) (hq1:states.getD (N.ps.length + i) 0 < (N.us.getD i default).ac.length) (hL:2 ^ 60 ≤ L):aA env L n 95 [.agg [.d (.ivs N.ps.length (sysD N.ps)),.d (.ivs N.us.length (fD N.us)),.d (.ivs N.start.length (ints N.start)),.d (.int .i64 N.ls),.d (.int .i64 N.kind),.d (.int .i64 N.goal)],.d (.ivs states.length (ints states)),.d (.int .i64 (i:Int))] [] = some (.d (.bool (okN N states i)),[]):=by
 have g:=aTo hi
 have e1:IntKind.i64.wrap ((N.ps.length:Int) + i) = ((N.ps.length + i:Nat):Int):=by
  rw [show (N.ps.length:Int) + i = ((N.ps.length + i:Nat):Int) by omega]
  exact BS (by omega) (by omega)
 have hc1:((N.ps.length + i:Nat):Int) < states.length:=by omega
 have hc2:(0:Int) ≤ ((N.ps.length + i:Nat):Int):=by omega
 have hi0:(0:Int) ≤ i:=by omega
 have hi1:(i:Int) < N.us.length:=by omega
 have hq3:(states.getD (N.ps.length + i) 0).toNat < (N.us.getD i default).ac.length:=by omega
 unfold okN
 generalize N.us.getD i default = a at *
 generalize hz:N.ps.length + i = z at *
 obtain _ | n:=n; omega
 rw [aNX]
 simp only [aHM,Tryd.f95,SLM,simprocAttr]
 simp -implicitDefEqProofs (maxSteps:=2000000) (disch:=try exact Dz) only [↓DN,↓kAsg,↓kRet,UP,simprocAttr,NE,LA,List.length_map,List.length_drop,List.drop_drop,hi0,hi1,g,e1,hc1,hc2,hq0,hq1,hq3,Int.toNat_natCast]
theorem aFN {R:Type} {L n:Nat} {hq:H} {k:A → H → Option R} (hn:1 ≤ n) (N:Net) (states:List Int) (i:Nat) (hi:i < N.us.length) (h1:N.ps.length ≤ 1000) (h2:N.us.length ≤ 1000) (hs:N.ps.length + i < states.length) (hs2:states.length ≤ 4000) (ha:(N.us.getD i default).ac.length ≤ 4294967290) (hq0:0 ≤ states.getD (N.ps.length + i) 0) (hq1:states.getD (N.ps.length + i) 0 < (N.us.getD i default).ac.length) (hL:2 ^ 60 ≤ L):aL env (aA env L n) hq 95 [.agg [.d (.ivs N.ps.length (sysD N.ps)),.d (.ivs N.us.length (fD N.us)),.d (.ivs N.start.length (ints N.start)),.d (.int .i64 N.ls),.d (.int .i64 N.kind),.d (.int .i64 N.goal)],.d (.ivs states.length (ints states)),.d (.int .i64 (i:Int))] k = k (.d (.bool (okN N states i))) hq :=
 a5 rfl (aFW hn N states i hi h1 h2 hs hs2 ha hq0 hq1 hL) rfl (.inl rfl)
theorem F8 {R:Type} {L n:Nat} {k:A → Option R} (hn:1 ≤ n) (N:Net) (states:List Int) (i:Nat) (hi:i < N.us.length) (h1:N.ps.length ≤ 1000) (h2:N.us.length ≤ 1000) (hs:N.ps.length + i < states.length) (hs2:states.length ≤ 4000) (ha:(N.us.getD i default).ac.length ≤ 4294967290) (hq0:0 ≤ states.getD (N.ps.length + i) 0) (hq1:states.getD (N.ps.length + i) 0 < (N.us.getD i default).ac.length) (hL:2 ^ 60 ≤ L):bL (aA env L n) 95 [.agg [.d (.ivs N.ps.length (sysD N.ps)),.d (.ivs N.us.length (fD N.us)),.d (.ivs N.start.length (ints N.start)),.d (.int .i64 N.ls),.d (.int .i64 N.kind),.d (.int .i64 N.goal)],.d (.ivs states.length (ints states)),.d (.int .i64 (i:Int))] k = k (.d (.bool (okN N states i))) :=
 fR (aFW hn N states i hi h1 h2 hs hs2 ha hq0 hq1 hL) rfl
theorem xV {R:Type} {L n:Nat} {hq:H} {k:A → H → Option R} {id0 g0 o0 len0:Nat} {N:Net} {states:List Int} {i:Nat}:aL env (aA env L n) hq 95 [.agg [.sl id0 g0 o0 len0,.d (.ivs N.us.length (fD N.us)),.d (.ivs N.start.length (ints N.start)),.d (.int .i64 N.ls),.d (.int .i64 N.kind),.d (.int .i64 N.goal)],.d (.ivs states.length (ints states)),.d (.int .i64 (i:Int))] k = match box (cZ hq [.agg [.sl id0 g0 o0 len0,.d (.ivs N.us.length (fD N.us)),.d (.ivs N.start.length (ints N.start)),.d (.int .i64 N.ls),.d (.int .i64 N.kind),.d (.int .i64 N.goal)],.d (.ivs states.length (ints states)),.d (.int .i64 (i:Int))]) with
  | .mk (some fs) => bL (aA env L n) 95 fs fun r => k r hq
  | _ => none:=aW eY
theorem yE {R:Type} {L n:Nat} {hq:H} {k:A → H → Option R} {id1 g1 o1 len1:Nat} {N:Net} {states:List Int} {i:Nat}:aL env (aA env L n) hq 95 [.agg [.d (.ivs N.ps.length (sysD N.ps)),.sl id1 g1 o1 len1,.d (.ivs N.start.length (ints N.start)),.d (.int .i64 N.ls),.d (.int .i64 N.kind),.d (.int .i64 N.goal)],.d (.ivs states.length (ints states)),.d (.int .i64 (i:Int))] k = match box (cZ hq [.agg [.d (.ivs N.ps.length (sysD N.ps)),.sl id1 g1 o1 len1,.d (.ivs N.start.length (ints N.start)),.d (.int .i64 N.ls),.d (.int .i64 N.kind),.d (.int .i64 N.goal)],.d (.ivs states.length (ints states)),.d (.int .i64 (i:Int))]) with
  | .mk (some fs) => bL (aA env L n) 95 fs fun r => k r hq
  | _ => none:=aW eY
theorem x7 {R:Type} {L n:Nat} {hq:H} {k:A → H → Option R} {id1 g1 o1 len1:Nat} {id0 g0 o0 len0:Nat} {N:Net} {states:List Int} {i:Nat}:aL env (aA env L n) hq 95 [.agg [.sl id0 g0 o0 len0,.sl id1 g1 o1 len1,.d (.ivs N.start.length (ints N.start)),.d (.int .i64 N.ls),.d (.int .i64 N.kind),.d (.int .i64 N.goal)],.d (.ivs states.length (ints states)),.d (.int .i64 (i:Int))] k = match box (cZ hq [.agg [.sl id0 g0 o0 len0,.sl id1 g1 o1 len1,.d (.ivs N.start.length (ints N.start)),.d (.int .i64 N.ls),.d (.int .i64 N.kind),.d (.int .i64 N.goal)],.d (.ivs states.length (ints states)),.d (.int .i64 (i:Int))]) with
  | .mk (some fs) => bL (aA env L n) 95 fs fun r => k r hq
  | _ => none:=aW eY
theorem yF {R:Type} {L n:Nat} {hq:H} {k:A → H → Option R} {id2 g2 o2 len2:Nat} {N:Net} {states:List Int} {i:Nat}:aL env (aA env L n) hq 95 [.agg [.d (.ivs N.ps.length (sysD N.ps)),.d (.ivs N.us.length (fD N.us)),.sl id2 g2 o2 len2,.d (.int .i64 N.ls),.d (.int .i64 N.kind),.d (.int .i64 N.goal)],.d (.ivs states.length (ints states)),.d (.int .i64 (i:Int))] k = match box (cZ hq [.agg [.d (.ivs N.ps.length (sysD N.ps)),.d (.ivs N.us.length (fD N.us)),.sl id2 g2 o2 len2,.d (.int .i64 N.ls),.d (.int .i64 N.kind),.d (.int .i64 N.goal)],.d (.ivs states.length (ints states)),.d (.int .i64 (i:Int))]) with
  | .mk (some fs) => bL (aA env L n) 95 fs fun r => k r hq
  | _ => none:=aW eY
theorem yH {R:Type} {L n:Nat} {hq:H} {k:A → H → Option R} {id2 g2 o2 len2:Nat} {id0 g0 o0 len0:Nat} {N:Net} {states:List Int} {i:Nat}:aL env (aA env L n) hq 95 [.agg [.sl id0 g0 o0 len0,.d (.ivs N.us.length (fD N.us)),.sl id2 g2 o2 len2,.d (.int .i64 N.ls),.d (.int .i64 N.kind),.d (.int .i64 N.goal)],.d (.ivs states.length (ints states)),.d (.int .i64 (i:Int))] k = match box (cZ hq [.agg [.sl id0 g0 o0 len0,.d (.ivs N.us.length (fD N.us)),.sl id2 g2 o2 len2,.d (.int .i64 N.ls),.d (.int .i64 N.kind),.d (.int .i64 N.goal)],.d (.ivs states.length (ints states)),.d (.int .i64 (i:Int))]) with
  | .mk (some fs) => bL (aA env L n) 95 fs fun r => k r hq
  | _ => none:=aW eY
theorem xY {R:Type} {L n:Nat} {hq:H} {k:A → H → Option R} {id2 g2 o2 len2:Nat} {id1 g1 o1 len1:Nat} {N:Net} {states:List Int} {i:Nat}:aL env (aA env L n) hq 95 [.agg [.d (.ivs N.ps.length (sysD N.ps)),.sl id1 g1 o1 len1,.sl id2 g2 o2 len2,.d (.int .i64 N.ls),.d (.int .i64 N.kind),.d (.int .i64 N.goal)],.d (.ivs states.length (ints states)),.d (.int .i64 (i:Int))] k = match box (cZ hq [.agg [.d (.ivs N.ps.length (sysD N.ps)),.sl id1 g1 o1 len1,.sl id2 g2 o2 len2,.d (.int .i64 N.ls),.d (.int .i64 N.kind),.d (.int .i64 N.goal)],.d (.ivs states.length (ints states)),.d (.int .i64 (i:Int))]) with
  | .mk (some fs) => bL (aA env L n) 95 fs fun r => k r hq
  | _ => none:=aW eY
theorem xO {R:Type} {L n:Nat} {hq:H} {k:A → H → Option R} {id2 g2 o2 len2:Nat} {id1 g1 o1 len1:Nat} {id0 g0 o0 len0:Nat} {N:Net} {states:List Int} {i:Nat}:aL env (aA env L n) hq 95 [.agg [.sl id0 g0 o0 len0,.sl id1 g1 o1 len1,.sl id2 g2 o2 len2,.d (.int .i64 N.ls),.d (.int .i64 N.kind),.d (.int .i64 N.goal)],.d (.ivs states.length (ints states)),.d (.int .i64 (i:Int))] k = match box (cZ hq [.agg [.sl id0 g0 o0 len0,.sl id1 g1 o1 len1,.sl id2 g2 o2 len2,.d (.int .i64 N.ls),.d (.int .i64 N.kind),.d (.int .i64 N.goal)],.d (.ivs states.length (ints states)),.d (.int .i64 (i:Int))]) with
  | .mk (some fs) => bL (aA env L n) 95 fs fun r => k r hq
  | _ => none:=aW eY
theorem xM {R:Type} {L n:Nat} {hq:H} {k:A → H → Option R} {id3 g3 o3 len3:Nat} {N:Net} {i:Nat}:aL env (aA env L n) hq 95 [.agg [.d (.ivs N.ps.length (sysD N.ps)),.d (.ivs N.us.length (fD N.us)),.d (.ivs N.start.length (ints N.start)),.d (.int .i64 N.ls),.d (.int .i64 N.kind),.d (.int .i64 N.goal)],.sl id3 g3 o3 len3,.d (.int .i64 (i:Int))] k = match box (cZ hq [.agg [.d (.ivs N.ps.length (sysD N.ps)),.d (.ivs N.us.length (fD N.us)),.d (.ivs N.start.length (ints N.start)),.d (.int .i64 N.ls),.d (.int .i64 N.kind),.d (.int .i64 N.goal)],.sl id3 g3 o3 len3,.d (.int .i64 (i:Int))]) with
  | .mk (some fs) => bL (aA env L n) 95 fs fun r => k r hq
  | _ => none:=aW eY
theorem xP {R:Type} {L n:Nat} {hq:H} {k:A → H → Option R} {id3 g3 o3 len3:Nat} {id0 g0 o0 len0:Nat} {N:Net} {i:Nat}:aL env (aA env L n) hq 95 [.agg [.sl id0 g0 o0 len0,.d (.ivs N.us.length (fD N.us)),.d (.ivs N.start.length (ints N.start)),.d (.int .i64 N.ls),.d (.int .i64 N.kind),.d (.int .i64 N.goal)],.sl id3 g3 o3 len3,.d (.int .i64 (i:Int))] k = match box (cZ hq [.agg [.sl id0 g0 o0 len0,.d (.ivs N.us.length (fD N.us)),.d (.ivs N.start.length (ints N.start)),.d (.int .i64 N.ls),.d (.int .i64 N.kind),.d (.int .i64 N.goal)],.sl id3 g3 o3 len3,.d (.int .i64 (i:Int))]) with
  | .mk (some fs) => bL (aA env L n) 95 fs fun r => k r hq
  | _ => none:=aW eY
theorem vK {R:Type} {L n:Nat} {hq:H} {k:A → H → Option R} {id3 g3 o3 len3:Nat} {id1 g1 o1 len1:Nat} {N:Net} {i:Nat}:aL env (aA env L n) hq 95 [.agg [.d (.ivs N.ps.length (sysD N.ps)),.sl id1 g1 o1 len1,.d (.ivs N.start.length (ints N.start)),.d (.int .i64 N.ls),.d (.int .i64 N.kind),.d (.int .i64 N.goal)],.sl id3 g3 o3 len3,.d (.int .i64 (i:Int))] k = match box (cZ hq [.agg [.d (.ivs N.ps.length (sysD N.ps)),.sl id1 g1 o1 len1,.d (.ivs N.start.length (ints N.start)),.d (.int .i64 N.ls),.d (.int .i64 N.kind),.d (.int .i64 N.goal)],.sl id3 g3 o3 len3,.d (.int .i64 (i:Int))]) with
  | .mk (some fs) => bL (aA env L n) 95 fs fun r => k r hq
  | _ => none:=aW eY
theorem uZ {R:Type} {L n:Nat} {hq:H} {k:A → H → Option R} {id3 g3 o3 len3:Nat} {id1 g1 o1 len1:Nat} {id0 g0 o0 len0:Nat} {N:Net} {i:Nat}:aL env (aA env L n) hq 95 [.agg [.sl id0 g0 o0 len0,.sl id1 g1 o1 len1,.d (.ivs N.start.length (ints N.start)),.d (.int .i64 N.ls),.d (.int .i64 N.kind),.d (.int .i64 N.goal)],.sl id3 g3 o3 len3,.d (.int .i64 (i:Int))] k = match box (cZ hq [.agg [.sl id0 g0 o0 len0,.sl id1 g1 o1 len1,.d (.ivs N.start.length (ints N.start)),.d (.int .i64 N.ls),.d (.int .i64 N.kind),.d (.int .i64 N.goal)],.sl id3 g3 o3 len3,.d (.int .i64 (i:Int))]) with
  | .mk (some fs) => bL (aA env L n) 95 fs fun r => k r hq
  | _ => none:=aW eY
theorem uR {R:Type} {L n:Nat} {hq:H} {k:A → H → Option R} {id3 g3 o3 len3:Nat} {id2 g2 o2 len2:Nat} {N:Net} {i:Nat}:aL env (aA env L n) hq 95 [.agg [.d (.ivs N.ps.length (sysD N.ps)),.d (.ivs N.us.length (fD N.us)),.sl id2 g2 o2 len2,.d (.int .i64 N.ls),.d (.int .i64 N.kind),.d (.int .i64 N.goal)],.sl id3 g3 o3 len3,.d (.int .i64 (i:Int))] k = match box (cZ hq [.agg [.d (.ivs N.ps.length (sysD N.ps)),.d (.ivs N.us.length (fD N.us)),.sl id2 g2 o2 len2,.d (.int .i64 N.ls),.d (.int .i64 N.kind),.d (.int .i64 N.goal)],.sl id3 g3 o3 len3,.d (.int .i64 (i:Int))]) with
  | .mk (some fs) => bL (aA env L n) 95 fs fun r => k r hq
  | _ => none:=aW eY
theorem uU {R:Type} {L n:Nat} {hq:H} {k:A → H → Option R} {id3 g3 o3 len3:Nat} {id2 g2 o2 len2:Nat} {id0 g0 o0 len0:Nat} {N:Net} {i:Nat}:aL env (aA env L n) hq 95 [.agg [.sl id0 g0 o0 len0,.d (.ivs N.us.length (fD N.us)),.sl id2 g2 o2 len2,.d (.int .i64 N.ls),.d (.int .i64 N.kind),.d (.int .i64 N.goal)],.sl id3 g3 o3 len3,.d (.int .i64 (i:Int))] k = match box (cZ hq [.agg [.sl id0 g0 o0 len0,.d (.ivs N.us.length (fD N.us)),.sl id2 g2 o2 len2,.d (.int .i64 N.ls),.d (.int .i64 N.kind),.d (.int .i64 N.goal)],.sl id3 g3 o3 len3,.d (.int .i64 (i:Int))]) with
  | .mk (some fs) => bL (aA env L n) 95 fs fun r => k r hq
  | _ => none:=aW eY
theorem u9 {R:Type} {L n:Nat} {hq:H} {k:A → H → Option R} {id3 g3 o3 len3:Nat} {id2 g2 o2 len2:Nat} {id1 g1 o1 len1:Nat} {N:Net} {i:Nat}:aL env (aA env L n) hq 95 [.agg [.d (.ivs N.ps.length (sysD N.ps)),.sl id1 g1 o1 len1,.sl id2 g2 o2 len2,.d (.int .i64 N.ls),.d (.int .i64 N.kind),.d (.int .i64 N.goal)],.sl id3 g3 o3 len3,.d (.int .i64 (i:Int))] k = match box (cZ hq [.agg [.d (.ivs N.ps.length (sysD N.ps)),.sl id1 g1 o1 len1,.sl id2 g2 o2 len2,.d (.int .i64 N.ls),.d (.int .i64 N.kind),.d (.int .i64 N.goal)],.sl id3 g3 o3 len3,.d (.int .i64 (i:Int))]) with
  | .mk (some fs) => bL (aA env L n) 95 fs fun r => k r hq
  | _ => none:=aW eY
theorem vP {R:Type} {L n:Nat} {hq:H} {k:A → H → Option R} {id3 g3 o3 len3:Nat} {id2 g2 o2 len2:Nat} {id1 g1 o1 len1:Nat} {id0 g0 o0 len0:Nat} {N:Net} {i:Nat}:aL env (aA env L n) hq 95 [.agg [.sl id0 g0 o0 len0,.sl id1 g1 o1 len1,.sl id2 g2 o2 len2,.d (.int .i64 N.ls),.d (.int .i64 N.kind),.d (.int .i64 N.goal)],.sl id3 g3 o3 len3,.d (.int .i64 (i:Int))] k = match box (cZ hq [.agg [.sl id0 g0 o0 len0,.sl id1 g1 o1 len1,.sl id2 g2 o2 len2,.d (.int .i64 N.ls),.d (.int .i64 N.kind),.d (.int .i64 N.goal)],.sl id3 g3 o3 len3,.d (.int .i64 (i:Int))]) with
  | .mk (some fs) => bL (aA env L n) 95 fs fun r => k r hq
  | _ => none:=aW eY
theorem EB {L n:Nat} (hn:5 ≤ n) (N:Net) (i:Nat) (q l:Int) (hi:N.ps.length ≤ i) (hi2:i - N.ps.length < N.us.length) (h1:N.ps.length ≤ 1000) (h2:N.us.length ≤ 1000) (u:Aut) (hu:N.us.getD (i - N.ps.length) default = u) (hs:bA u.nx) (hw:pF (aD u.al).length u.nx) (hq0:0 ≤ q) (hq1:q < u.nx.length) (h0:0 ≤ l) (h6:l < 6) (hL:2 ^ 60 ≤ L):aA env L n 104 [.agg [.d (.ivs N.ps.length (sysD N.ps)),.d (.ivs N.us.length (fD N.us)),.d (.ivs N.start.length (ints N.start)),.d (.int .i64 N.ls),.d (.int .i64 N.kind),.d (.int .i64 N.goal)],.d (.int .i64 (i:Int)),.d (.int .i64 q),.d (.int .i64 l)] [] = some (.d (.ivs 1 (ints [goI u.al u.nx q l])),[]):=by
 have g:=aSs hi2
 rw [hu] at g
 have e1:IntKind.i64.wrap ((i:Int) - N.ps.length) = ((i - N.ps.length:Nat):Int):=by
  rw [show (i:Int) - N.ps.length = ((i - N.ps.length:Nat):Int) by omega]
  exact BS (by omega) (by omega)
 have hc:(N.ps.length:Int) ≤ i:=by omega
 have hc1:((i - N.ps.length:Nat):Int) < N.us.length:=by omega
 have hc2:(0:Int) ≤ ((i - N.ps.length:Nat):Int):=by omega
 have kc_g:=fun {R:Type} {n:Nat} {hq:H} {k:A → H → Option R} (hn:3 ≤ n) => @aOc R L n hq k hn u.al q l u.nx u.ac.length (aK u.ac) hs hw hq0 hq1 h0 h6 hL
 clear hu
 generalize i - N.ps.length = z at *
 obtain _ | n:=n; omega
 rw [aDQ]
 simp only [TU,Tryd.f104,SLM,simprocAttr]
 simp -implicitDefEqProofs (maxSteps:=2000000) (disch:=try exact Dz) only [↓DN,↓kAsg,↓kRet,UP,simprocAttr,↓lY,↓aOG,↓aJq,↓aJA,↓aJj,NE,LA,List.length_map,List.length_drop,List.drop_drop,hc,hc1,hc2,g,e1,↓kc_g,Int.toNat_natCast]
 rfl
theorem rZ {R:Type} {L n:Nat} {hq:H} {k:A → H → Option R} (hn:5 ≤ n) (N:Net) (i:Nat) (q l:Int) (hi:N.ps.length ≤ i) (hi2:i - N.ps.length < N.us.length) (h1:N.ps.length ≤ 1000) (h2:N.us.length ≤ 1000) (u:Aut) (hu:N.us.getD (i - N.ps.length) default = u) (hs:bA u.nx) (hw:pF (aD u.al).length u.nx) (hq0:0 ≤ q) (hq1:q < u.nx.length) (h0:0 ≤ l) (h6:l < 6) (hL:2 ^ 60 ≤ L):aL env (aA env L n) hq 104 [.agg [.d (.ivs N.ps.length (sysD N.ps)),.d (.ivs N.us.length (fD N.us)),.d (.ivs N.start.length (ints N.start)),.d (.int .i64 N.ls),.d (.int .i64 N.kind),.d (.int .i64 N.goal)],.d (.int .i64 (i:Int)),.d (.int .i64 q),.d (.int .i64 l)] k = k (.d (.ivs 1 (ints [goI u.al u.nx q l]))) hq :=
 a5 rfl (EB hn N i q l hi hi2 h1 h2 u hu hs hw hq0 hq1 h0 h6 hL) rfl (.inr rfl)
end Ev
end Go.Proofs.YtppdfjdfjfoddaaDoor
