/-
  Products as the reference searches them, walked: where a letter leads.
-/
import Derived.Test.YtejmccgfigiadaaGreatNetW
import Derived.Test.YtejmccgfigiadaaGreatAutoL
set_option linter.unusedSimpArgs false
set_option linter.unusedVariables false
set_option maxRecDepth 8000
set_option maxHeartbeats 4000000
namespace Go.Proofs.YtejmccgfigiadaaGreat
namespace Ev
theorem aOq {R:Type} {L n:Nat} (hn:1 ≤ n) {l:List Int} {x:Int} (hl:l.length ≤ 4294967290) {k:Exit → List A → H → Option R}:∀ (j i m:Nat) (hi:i + j = l.length) (hm:j < m),
  aJ env (aA env L n) L 0 [] Bz26 (J9 0) Bz59 m (.d (.ivs l.length (ints l)) :: nI x :: Y2 (.d (.bool false) :: nI (i:Int) :: Y8 (Y4 ([])))) [] k
  = match seek (fun i => decide (l.getD i 0 = x)) j i with
   | none => k (.exit 0) (.d (.ivs l.length (ints l)) :: nI x :: Y2 (.d (.bool false) :: nI (l.length) :: Y8 (Y4 ([])))) []
   | some q => k .ret (.d (.ivs l.length (ints l)) :: nI x :: Y2 (.d (.bool true) :: nI (q:Int) :: Y8 (Y4 ([])))) []:=by
 intro j
 induction j with
 | zero =>
  intro i m hi hm
  obtain _ | m:=m; omega
  obtain rfl:i = l.length:=by omega
  rw [KX]
  simp only [MP,Tryz.f153,SLM,simprocAttr]
  simp -implicitDefEqProofs (maxSteps:=2000000) (disch:=try exact Dz) only [↓DN,↓kAsg,↓kRet,UP,simprocAttr,Int.lt_irrefl]
  rfl
 | succ j ih =>
  intro i m hi hm
  obtain _ | m:=m; omega
  have hk:i < l.length:=by omega
  have hc:(i:Int) < l.length:=by omega
  have hi0:(0:Int) ≤ i:=by omega
  by_cases he:l.getD i 0 = x
  ·rw [pE (p:=fun i => decide (l.getD i 0 = x)) (by simpa using he)]
   rw [KX]
   simp only [MP,Tryz.f153,SLM,simprocAttr]
   simp -implicitDefEqProofs (maxSteps:=2000000) (disch:=try exact Dz) only [↓DN,↓kAsg,↓kRet,UP,simprocAttr,hc,hi0,he,Int.toNat_natCast]
  ·rw [uK (p:=fun i => decide (l.getD i 0 = x)) (by simpa using he)]
   have ih':=ih (i + 1) m (by omega) (by omega)
   rw [show ((i + 1:Nat):Int) = (i:Int) + 1 by omega] at ih'
   clear ih
   rw [KX]
   simp only [MP,Tryz.f153,SLM,simprocAttr]
   simp -implicitDefEqProofs (maxSteps:=2000000) (disch:=try exact Dz) only [↓DN,↓kAsg,↓kRet,UP,simprocAttr,hc,hi0,he,Int.toNat_natCast,↓ih']
theorem aKQ {L n:Nat} (hn:2 ≤ n) (l:List Int) (x:Int) (hl:l.length ≤ 4294967290) (hL:2 ^ 60 ≤ L):aA env L n 153 [.d (.ivs l.length (ints l)),nI x] [] = some (.d (.bool (decide (x ∈ l))),[]):=by
 have loop_c:=fun {R:Type} {n:Nat} {k:Exit → List A → H → Option R} (hn:1 ≤ n) => @aOq R L n hn l x hl k l.length 0 L (by omega) (by omega)
 simp only [Int.natCast_zero] at loop_c
 cases hs:seek (fun i => decide (l.getD i 0 = x)) l.length 0 with
 | none =>
  have hx:¬ x ∈ l:=by
   intro hx
   obtain ⟨q,hq,e⟩:=List.getElem_of_mem hx
   have:=xI.1 hs q (by omega) (by omega)
   simp only [decide_eq_false_iff_not] at this
   exact this (by rw [List.getD_eq_getElem?_getD,List.getElem?_eq_getElem hq,e]; rfl)
  simp only [hs] at loop_c
  obtain _ | n:=n; omega
  rw [aJM]
  simp only [aFe,Tryz.f153,SLM,simprocAttr]
  simp -implicitDefEqProofs (maxSteps:=2000000) (disch:=try exact Dz) only [↓DN,↓kAsg,↓kRet,UP,simprocAttr,↓loop_c,hx]
 | some q =>
  obtain ⟨h1,h2,h3,_⟩:=R1 hs
  have hx:x ∈ l:=by
   simp only [decide_eq_true_eq] at h3
   rw [← h3]
   exact pL (by omega)
  simp only [hs] at loop_c
  obtain _ | n:=n; omega
  rw [aJM]
  simp only [aFe,Tryz.f153,SLM,simprocAttr]
  simp -implicitDefEqProofs (maxSteps:=2000000) (disch:=try exact Dz) only [↓DN,↓kAsg,↓kRet,UP,simprocAttr,↓loop_c,hx]
theorem kU {L:Nat} (l:List Int) (x:Int) (hl:l.length ≤ 4294967290) (hL:2 ^ 60 ≤ L):KC 2 L 153 [.d (.ivs l.length (ints l)),nI x] (.d (.bool (decide (x ∈ l)))):=ks rfl (fun hn => aKQ hn l x hl hL) rfl (.inl rfl)
theorem oX {L:Nat} (l:List Int) (x:Int) (hl:l.length ≤ 4294967290) (hL:2 ^ 60 ≤ L):KT 2 L 153 [.d (.ivs l.length (ints l)),nI x] (.d (.bool (decide (x ∈ l)))):=fun hn => bY (aKQ hn l x hl hL) rfl
theorem iG {L:Nat} {id0 g0 o0 len0:Nat} {x:Int}:KV L 153 [.sl id0 g0 o0 len0,nI x]:=aF SZ
def WO (dist r:List Int) (d:Int):Nat → Bool:=fun i => decide (dist.getD (r.getD i 0).toNat 0 = d)
def RI (dist:List Int) (mvs:List (List Int)) (d:Int):Nat → Bool:=fun k => (seek (WO dist (mvs.getD k []) d) (mvs.getD k []).length 0).isSome
theorem aLG {α:Type} {l:List α} {p:α → Bool} {q:Nat → Bool} {x:α} (hq:∀ i,i < l.length → q i = p (l.getD i x)):(seek q l.length 0).isSome = l.any p:=by
 rw [Bool.eq_iff_iff,Option.isSome_iff_exists,List.any_eq_true]
 constructor
 ·rintro ⟨r,hr⟩
  obtain ⟨_,h2,h3,_⟩:=R1 hr
  refine ⟨l.getD r x,?_,by rw [← hq r (by omega)]; exact h3⟩
  rw [List.getD_eq_getElem?_getD,List.getElem?_eq_getElem (by omega)]
  exact List.getElem_mem (by omega)
 ·rintro ⟨y,hy,hp⟩
  obtain ⟨r,hr,e⟩:=List.getElem_of_mem hy
  cases hs:seek q l.length 0 with
  | some z => exact ⟨z,rfl⟩
  | none =>
   have:=xI.1 hs r (by omega) (by omega)
   rw [hq r hr,List.getD_eq_getElem?_getD,List.getElem?_eq_getElem hr,Option.getD_some,e,hp] at this
   cases this
theorem aSU {dist:List Int} {mvs:List (List Int)} {d:Int}:(seek (RI dist mvs d) mvs.length 0).isSome = IU mvs dist d:=by
 unfold IU
 refine aLG (x:=[]) fun k hk => ?_
 unfold RI
 exact aLG (x:=0) fun i hi => rfl
theorem aF6 {R:Type} {L n:Nat} (hn:1 ≤ n) {mvs:List (List Int)} {dist:List Int} {d:Int} {q:Nat} (hq:q < mvs.length) (hl:mvs.length ≤ 4294967290) (hr:(mvs.getD q []).length ≤ 4294967290) (hd:dist.length ≤ 4294967290) (hm':∀ x ∈ mvs.getD q [],0 ≤ x ∧ x < dist.length) {k:Exit → List A → H → Option R}:∀ (j i m:Nat) (hi:i + j = (mvs.getD q []).length) (hm:j < m),
  aJ env (aA env L n) L 0 [] Bz15 (nO 1) (Z2 (Z1 (U2 (U1 (Z2 (Z1 (U16 (U8 (U2 (U1 ([]))))))))))) m (.d (.ivs mvs.length (rowsD mvs)) :: .d (.ivs dist.length (ints dist)) :: nI d :: Y2 (Y1 (.d (.bool false) :: nI (q:Int) :: nI (i:Int) :: Y16 (Y8 (Y2 (Y1 ([]))))))) [] k
  = match seek (WO dist (mvs.getD q []) d) j i with
   | none => k (.exit 2) (.d (.ivs mvs.length (rowsD mvs)) :: .d (.ivs dist.length (ints dist)) :: nI d :: Y2 (Y1 (.d (.bool false) :: nI (q:Int) :: nI ((mvs.getD q []).length) :: Y16 (Y8 (Y2 (Y1 ([]))))))) []
   | some r => k .ret (.d (.ivs mvs.length (rowsD mvs)) :: .d (.ivs dist.length (ints dist)) :: nI d :: Y2 (Y1 (.d (.bool true) :: nI (q:Int) :: nI (r:Int) :: Y16 (Y8 (Y2 (Y1 ([]))))))) []:=by
 intro j
 have hcq:(q:Int) < mvs.length:=by omega
 have hq0:(0:Int) ≤ q:=by omega
 induction j with
 | zero =>
  intro i m hi hm
  obtain _ | m:=m; omega
  obtain rfl:i = (mvs.getD q []).length:=by omega
  rw [FW]
  simp only [DS,Tryz.f177,SLM,simprocAttr]
  simp -implicitDefEqProofs (maxSteps:=2000000) (disch:=try exact Dz) only [↓DN,↓kAsg,↓kRet,UP,simprocAttr,LA,hcq,hq0,Int.toNat_natCast,Int.lt_irrefl]
  rfl
 | succ j ih =>
  intro i m hi hm
  obtain _ | m:=m; omega
  have hk:i < (mvs.getD q []).length:=by omega
  have hc:(i:Int) < (mvs.getD q []).length:=by omega
  have hi0:(0:Int) ≤ i:=by omega
  obtain ⟨b1,b2⟩:=hm' _ (pL hk)
  have b3:((mvs.getD q []).getD i 0).toNat < dist.length:=by omega
  by_cases he:dist.getD ((mvs.getD q []).getD i 0).toNat 0 = d
  ·rw [pE (p:=WO dist (mvs.getD q []) d) (by simpa [WO] using he)]
   rw [FW]
   simp only [DS,Tryz.f177,SLM,simprocAttr]
   simp -implicitDefEqProofs (maxSteps:=2000000) (disch:=try exact Dz) only [↓DN,↓kAsg,↓kRet,UP,simprocAttr,LA,hcq,hq0,hc,hi0,b1,b2,he,Int.toNat_natCast]
  ·rw [uK (p:=WO dist (mvs.getD q []) d) (by simpa [WO] using he)]
   have ih':=ih (i + 1) m (by omega) (by omega)
   rw [show ((i + 1:Nat):Int) = (i:Int) + 1 by omega] at ih'
   clear ih
   rw [FW]
   simp only [DS,Tryz.f177,SLM,simprocAttr]
   simp -implicitDefEqProofs (maxSteps:=2000000) (disch:=try exact Dz) only [↓DN,↓kAsg,↓kRet,UP,simprocAttr,LA,hcq,hq0,hc,hi0,b1,b2,he,Int.toNat_natCast,↓ih']
theorem aHd {R:Type} {L n:Nat} (hn:1 ≤ n) (hL:2 ^ 60 ≤ L) {mvs:List (List Int)} {dist:List Int} {d:Int} (hl:mvs.length ≤ 4294967290) (hr:∀ r ∈ mvs,r.length ≤ 4294967290 ∧ ∀ x ∈ r,0 ≤ x ∧ x < dist.length) (hd:dist.length ≤ 4294967290) {k:Exit → List A → H → Option R}:∀ (j q m:Nat) (hi:q + j = mvs.length) (hm:j < m),
  aJ env (aA env L n) L 0 [] Bz15 (nO 0) (Z2 (Z1 (U2 (U1 (Z2 (U16 (U8 (U4 ([]))))))))) m (.d (.ivs mvs.length (rowsD mvs)) :: .d (.ivs dist.length (ints dist)) :: nI d :: Y2 (Y1 (.d (.bool false) :: nI (q:Int) :: Y16 (Y8 (Y4 ([])))))) [] k
  = match seek (RI dist mvs d) j q with
   | none => k (.exit 0) (.d (.ivs mvs.length (rowsD mvs)) :: .d (.ivs dist.length (ints dist)) :: nI d :: Y2 (Y1 (.d (.bool false) :: nI (mvs.length) :: Y16 (Y8 (Y4 ([])))))) []
   | some r => k .ret (.d (.ivs mvs.length (rowsD mvs)) :: .d (.ivs dist.length (ints dist)) :: nI d :: Y2 (Y1 (.d (.bool true) :: nI (r:Int) :: Y16 (Y8 (Y4 ([])))))) []:=by
 intro j
 induction j with
 | zero =>
  intro q m hi hm
  obtain _ | m:=m; omega
  obtain rfl:q = mvs.length:=by omega
  rw [EP]
  simp only [D1,Tryz.f177,SLM,simprocAttr]
  simp -implicitDefEqProofs (maxSteps:=2000000) (disch:=try exact Dz) only [↓DN,↓kAsg,↓kRet,UP,simprocAttr,LA,Int.lt_irrefl]
  rfl
 | succ j ih =>
  intro q m hi hm
  obtain _ | m:=m; omega
  have hk:q < mvs.length:=by omega
  have hc:(q:Int) < mvs.length:=by omega
  have hq0:(0:Int) ≤ q:=by omega
  have hmem:mvs.getD q [] ∈ mvs:=by rw [List.getD_eq_getElem?_getD,List.getElem?_eq_getElem hk]; exact List.getElem_mem hk
  obtain ⟨r1,r2⟩:=hr _ hmem
  have loop_c:=fun {R:Type} {n:Nat} {k:Exit → List A → H → Option R} (hn:1 ≤ n) => @aF6 R L n hn mvs dist d q hk hl r1 hd r2 k (mvs.getD q []).length 0 L (by omega) (by omega)
  simp only [Int.natCast_zero] at loop_c
  cases hs:seek (WO dist (mvs.getD q []) d) (mvs.getD q []).length 0 with
  | some z =>
   rw [pE (p:=RI dist mvs d) (by unfold RI; rw [hs]; rfl)]
   simp only [hs] at loop_c
   rw [EP]
   simp only [D1,Tryz.f177,SLM,simprocAttr]
   simp -implicitDefEqProofs (maxSteps:=2000000) (disch:=try exact Dz) only [↓DN,↓kAsg,↓kRet,UP,simprocAttr,LA,hc,hq0,Int.toNat_natCast,↓loop_c]
  | none =>
   rw [uK (p:=RI dist mvs d) (by unfold RI; rw [hs]; rfl)]
   simp only [hs] at loop_c
   have ih':=ih (q + 1) m (by omega) (by omega)
   rw [show ((q + 1:Nat):Int) = (q:Int) + 1 by omega] at ih'
   clear ih
   rw [EP]
   simp only [D1,Tryz.f177,SLM,simprocAttr]
   simp -implicitDefEqProofs (maxSteps:=2000000) (disch:=try exact Dz) only [↓DN,↓kAsg,↓kRet,UP,simprocAttr,LA,hc,hq0,Int.toNat_natCast,↓loop_c,↓ih']
theorem aD6 {L n:Nat} (hn:2 ≤ n) (mvs:List (List Int)) (dist:List Int) (d:Int) (hl:mvs.length ≤ 4294967290) (hr:∀ r ∈ mvs,r.length ≤ 4294967290 ∧ ∀ x ∈ r,0 ≤ x ∧ x < dist.length) (hd:dist.length ≤ 4294967290) (hL:2 ^ 60 ≤ L):aA env L n 177 [.d (.ivs mvs.length (rowsD mvs)),.d (.ivs dist.length (ints dist)),nI d] [] = some (.d (.bool (IU mvs dist d)),[]):=by
 have loop_c:=fun {R:Type} {n:Nat} {k:Exit → List A → H → Option R} (hn:1 ≤ n) => @aHd R L n hn hL mvs dist d hl hr hd k mvs.length 0 L (by omega) (by omega)
 simp only [Int.natCast_zero] at loop_c
 rw [← aSU]
 cases hs:seek (RI dist mvs d) mvs.length 0 with
 | none =>
  simp only [hs] at loop_c
  obtain _ | n:=n; omega
  rw [aD5]
  simp only [W0,Tryz.f177,SLM,simprocAttr]
  simp -implicitDefEqProofs (maxSteps:=2000000) (disch:=try exact Dz) only [↓DN,↓kAsg,↓kRet,UP,simprocAttr,↓loop_c,Option.isSome_none]
 | some q =>
  simp only [hs] at loop_c
  obtain _ | n:=n; omega
  rw [aD5]
  simp only [W0,Tryz.f177,SLM,simprocAttr]
  simp -implicitDefEqProofs (maxSteps:=2000000) (disch:=try exact Dz) only [↓DN,↓kAsg,↓kRet,UP,simprocAttr,↓loop_c,Option.isSome_some]
theorem oU {L:Nat} (mvs:List (List Int)) (dist:List Int) (d:Int) (hl:mvs.length ≤ 4294967290) (hr:∀ r ∈ mvs,r.length ≤ 4294967290 ∧ ∀ x ∈ r,0 ≤ x ∧ x < dist.length) (hd:dist.length ≤ 4294967290) (hL:2 ^ 60 ≤ L):KC 2 L 177 [.d (.ivs mvs.length (rowsD mvs)),.d (.ivs dist.length (ints dist)),nI d] (.d (.bool (IU mvs dist d))):=ks rfl (fun hn => aD6 hn mvs dist d hl hr hd hL) rfl (.inl rfl)
theorem vF {L:Nat} (mvs:List (List Int)) (dist:List Int) (d:Int) (hl:mvs.length ≤ 4294967290) (hr:∀ r ∈ mvs,r.length ≤ 4294967290 ∧ ∀ x ∈ r,0 ≤ x ∧ x < dist.length) (hd:dist.length ≤ 4294967290) (hL:2 ^ 60 ≤ L):KT 2 L 177 [.d (.ivs mvs.length (rowsD mvs)),.d (.ivs dist.length (ints dist)),nI d] (.d (.bool (IU mvs dist d))):=fun hn => bY (aD6 hn mvs dist d hl hr hd hL) rfl
theorem mJ {L:Nat} {id0 g0 o0 len0:Nat} {dist:List Int} {d:Int}:KV L 177 [.sl id0 g0 o0 len0,.d (.ivs dist.length (ints dist)),nI d]:=aF uV
theorem mA {L:Nat} {id1 g1 o1 len1:Nat} {mvs:List (List Int)} {d:Int}:KV L 177 [.d (.ivs mvs.length (rowsD mvs)),.sl id1 g1 o1 len1,nI d]:=aF uV
theorem mG {L:Nat} {id1 g1 o1 len1:Nat} {id0 g0 o0 len0:Nat} {d:Int}:KV L 177 [.sl id0 g0 o0 len0,.sl id1 g1 o1 len1,nI d]:=aF uV
theorem aJ8 {L n:Nat} (hn:1 ≤ n) (N:Net) (states:List Int) (i:Nat) (hi:i < N.us.length) (h1:N.ps.length ≤ 1000) (h2:N.us.length ≤ 1000) (hs:N.ps.length + i < states.length) (hs2:states.length ≤ 4000) (ha:(N.us.getD i default).ac.length ≤ 4294967290) (hq0:0 ≤ states.getD (N.ps.length + i) 0) (hq1:states.getD (N.ps.length + i) 0 < (N.us.getD i default).ac.length) (hL:2 ^ 60 ≤ L):aA env L n 176 [.agg [.d (.ivs N.ps.length (sysD N.ps)),.d (.ivs N.us.length (fM N.us)),.d (.ivs N.start.length (ints N.start)),nI N.ls,nI N.kind,nI N.goal],.d (.ivs states.length (ints states)),nI (i:Int)] [] = some (.d (.bool (okN N states i)),[]):=by
 have g:=aZh hi
 have e1:IntKind.i64.wrap ((N.ps.length:Int) + i) = ((N.ps.length + i:Nat):Int):=by
  rw [show (N.ps.length:Int) + i = ((N.ps.length + i:Nat):Int) by omega]
  exact FT (by omega) (by omega)
 have hc1:((N.ps.length + i:Nat):Int) < states.length:=by omega
 have hc2:(0:Int) ≤ ((N.ps.length + i:Nat):Int):=by omega
 have hi0:(0:Int) ≤ i:=by omega
 have hi1:(i:Int) < N.us.length:=by omega
 have hq3:(states.getD (N.ps.length + i) 0).toNat < (N.us.getD i default).ac.length:=by omega
 unfold okN
 generalize N.us.getD i default = a at *
 generalize hz:N.ps.length + i = z at *
 obtain _ | n:=n; omega
 rw [aQ4]
 simp only [aMn,Tryz.f176,SLM,simprocAttr]
 simp -implicitDefEqProofs (maxSteps:=2000000) (disch:=try exact Dz) only [↓DN,↓kAsg,↓kRet,UP,simprocAttr,NE,LA,List.length_map,List.length_drop,List.drop_drop,hi0,hi1,g,e1,hc1,hc2,hq0,hq1,hq3,Int.toNat_natCast]
theorem aJU {R:Type} {L n:Nat} {hq:H} {k:A → H → Option R} (hn:1 ≤ n) (N:Net) (states:List Int) (i:Nat) (hi:i < N.us.length) (h1:N.ps.length ≤ 1000) (h2:N.us.length ≤ 1000) (hs:N.ps.length + i < states.length) (hs2:states.length ≤ 4000) (ha:(N.us.getD i default).ac.length ≤ 4294967290) (hq0:0 ≤ states.getD (N.ps.length + i) 0) (hq1:states.getD (N.ps.length + i) 0 < (N.us.getD i default).ac.length) (hL:2 ^ 60 ≤ L):aW env (aA env L n) hq 176 [.agg [.d (.ivs N.ps.length (sysD N.ps)),.d (.ivs N.us.length (fM N.us)),.d (.ivs N.start.length (ints N.start)),nI N.ls,nI N.kind,nI N.goal],.d (.ivs states.length (ints states)),nI (i:Int)] k = k (.d (.bool (okN N states i))) hq :=
 eO rfl (aJ8 hn N states i hi h1 h2 hs hs2 ha hq0 hq1 hL) rfl (.inl rfl)
theorem C1 {L:Nat} (N:Net) (states:List Int) (i:Nat) (hi:i < N.us.length) (h1:N.ps.length ≤ 1000) (h2:N.us.length ≤ 1000) (hs:N.ps.length + i < states.length) (hs2:states.length ≤ 4000) (ha:(N.us.getD i default).ac.length ≤ 4294967290) (hq0:0 ≤ states.getD (N.ps.length + i) 0) (hq1:states.getD (N.ps.length + i) 0 < (N.us.getD i default).ac.length) (hL:2 ^ 60 ≤ L):KT 1 L 176 [.agg [.d (.ivs N.ps.length (sysD N.ps)),.d (.ivs N.us.length (fM N.us)),.d (.ivs N.start.length (ints N.start)),nI N.ls,nI N.kind,nI N.goal],.d (.ivs states.length (ints states)),nI (i:Int)] (.d (.bool (okN N states i))):=fun hn => bY (aJ8 hn N states i hi h1 h2 hs hs2 ha hq0 hq1 hL) rfl
theorem vJ {L:Nat} {id0 g0 o0 len0:Nat} {N:Net} {states:List Int} {i:Nat}:KV L 176 [.agg [.sl id0 g0 o0 len0,.d (.ivs N.us.length (fM N.us)),.d (.ivs N.start.length (ints N.start)),nI N.ls,nI N.kind,nI N.goal],.d (.ivs states.length (ints states)),nI (i:Int)]:=aF eP
theorem vH {L:Nat} {id1 g1 o1 len1:Nat} {N:Net} {states:List Int} {i:Nat}:KV L 176 [.agg [.d (.ivs N.ps.length (sysD N.ps)),.sl id1 g1 o1 len1,.d (.ivs N.start.length (ints N.start)),nI N.ls,nI N.kind,nI N.goal],.d (.ivs states.length (ints states)),nI (i:Int)]:=aF eP
theorem vE {L:Nat} {id1 g1 o1 len1:Nat} {id0 g0 o0 len0:Nat} {N:Net} {states:List Int} {i:Nat}:KV L 176 [.agg [.sl id0 g0 o0 len0,.sl id1 g1 o1 len1,.d (.ivs N.start.length (ints N.start)),nI N.ls,nI N.kind,nI N.goal],.d (.ivs states.length (ints states)),nI (i:Int)]:=aF eP
theorem vK {L:Nat} {id2 g2 o2 len2:Nat} {N:Net} {states:List Int} {i:Nat}:KV L 176 [.agg [.d (.ivs N.ps.length (sysD N.ps)),.d (.ivs N.us.length (fM N.us)),.sl id2 g2 o2 len2,nI N.ls,nI N.kind,nI N.goal],.d (.ivs states.length (ints states)),nI (i:Int)]:=aF eP
theorem vC {L:Nat} {id2 g2 o2 len2:Nat} {id0 g0 o0 len0:Nat} {N:Net} {states:List Int} {i:Nat}:KV L 176 [.agg [.sl id0 g0 o0 len0,.d (.ivs N.us.length (fM N.us)),.sl id2 g2 o2 len2,nI N.ls,nI N.kind,nI N.goal],.d (.ivs states.length (ints states)),nI (i:Int)]:=aF eP
theorem u6 {L:Nat} {id2 g2 o2 len2:Nat} {id1 g1 o1 len1:Nat} {N:Net} {states:List Int} {i:Nat}:KV L 176 [.agg [.d (.ivs N.ps.length (sysD N.ps)),.sl id1 g1 o1 len1,.sl id2 g2 o2 len2,nI N.ls,nI N.kind,nI N.goal],.d (.ivs states.length (ints states)),nI (i:Int)]:=aF eP
theorem vI {L:Nat} {id2 g2 o2 len2:Nat} {id1 g1 o1 len1:Nat} {id0 g0 o0 len0:Nat} {N:Net} {states:List Int} {i:Nat}:KV L 176 [.agg [.sl id0 g0 o0 len0,.sl id1 g1 o1 len1,.sl id2 g2 o2 len2,nI N.ls,nI N.kind,nI N.goal],.d (.ivs states.length (ints states)),nI (i:Int)]:=aF eP
theorem vD {L:Nat} {id3 g3 o3 len3:Nat} {N:Net} {i:Nat}:KV L 176 [.agg [.d (.ivs N.ps.length (sysD N.ps)),.d (.ivs N.us.length (fM N.us)),.d (.ivs N.start.length (ints N.start)),nI N.ls,nI N.kind,nI N.goal],.sl id3 g3 o3 len3,nI (i:Int)]:=aF eP
theorem vG {L:Nat} {id3 g3 o3 len3:Nat} {id0 g0 o0 len0:Nat} {N:Net} {i:Nat}:KV L 176 [.agg [.sl id0 g0 o0 len0,.d (.ivs N.us.length (fM N.us)),.d (.ivs N.start.length (ints N.start)),nI N.ls,nI N.kind,nI N.goal],.sl id3 g3 o3 len3,nI (i:Int)]:=aF eP
theorem sF {L:Nat} {id3 g3 o3 len3:Nat} {id1 g1 o1 len1:Nat} {N:Net} {i:Nat}:KV L 176 [.agg [.d (.ivs N.ps.length (sysD N.ps)),.sl id1 g1 o1 len1,.d (.ivs N.start.length (ints N.start)),nI N.ls,nI N.kind,nI N.goal],.sl id3 g3 o3 len3,nI (i:Int)]:=aF eP
theorem sM {L:Nat} {id3 g3 o3 len3:Nat} {id1 g1 o1 len1:Nat} {id0 g0 o0 len0:Nat} {N:Net} {i:Nat}:KV L 176 [.agg [.sl id0 g0 o0 len0,.sl id1 g1 o1 len1,.d (.ivs N.start.length (ints N.start)),nI N.ls,nI N.kind,nI N.goal],.sl id3 g3 o3 len3,nI (i:Int)]:=aF eP
theorem s8 {L:Nat} {id3 g3 o3 len3:Nat} {id2 g2 o2 len2:Nat} {N:Net} {i:Nat}:KV L 176 [.agg [.d (.ivs N.ps.length (sysD N.ps)),.d (.ivs N.us.length (fM N.us)),.sl id2 g2 o2 len2,nI N.ls,nI N.kind,nI N.goal],.sl id3 g3 o3 len3,nI (i:Int)]:=aF eP
theorem tC {L:Nat} {id3 g3 o3 len3:Nat} {id2 g2 o2 len2:Nat} {id0 g0 o0 len0:Nat} {N:Net} {i:Nat}:KV L 176 [.agg [.sl id0 g0 o0 len0,.d (.ivs N.us.length (fM N.us)),.sl id2 g2 o2 len2,nI N.ls,nI N.kind,nI N.goal],.sl id3 g3 o3 len3,nI (i:Int)]:=aF eP
theorem sO {L:Nat} {id3 g3 o3 len3:Nat} {id2 g2 o2 len2:Nat} {id1 g1 o1 len1:Nat} {N:Net} {i:Nat}:KV L 176 [.agg [.d (.ivs N.ps.length (sysD N.ps)),.sl id1 g1 o1 len1,.sl id2 g2 o2 len2,nI N.ls,nI N.kind,nI N.goal],.sl id3 g3 o3 len3,nI (i:Int)]:=aF eP
theorem sA {L:Nat} {id3 g3 o3 len3:Nat} {id2 g2 o2 len2:Nat} {id1 g1 o1 len1:Nat} {id0 g0 o0 len0:Nat} {N:Net} {i:Nat}:KV L 176 [.agg [.sl id0 g0 o0 len0,.sl id1 g1 o1 len1,.sl id2 g2 o2 len2,nI N.ls,nI N.kind,nI N.goal],.sl id3 g3 o3 len3,nI (i:Int)]:=aF eP
theorem yY {L n:Nat} (hn:5 ≤ n) (N:Net) (i:Nat) (q l:Int) (hi:N.ps.length ≤ i) (hi2:i - N.ps.length < N.us.length) (h1:N.ps.length ≤ 1000) (h2:N.us.length ≤ 1000) (u:Aut) (hu:N.us.getD (i - N.ps.length) default = u) (hs:a8 u.nx) (hw:pP (aB u.al).length u.nx) (hq0:0 ≤ q) (hq1:q < u.nx.length) (h0:0 ≤ l) (h6:l < 6) (hL:2 ^ 60 ≤ L):aA env L n 182 [.agg [.d (.ivs N.ps.length (sysD N.ps)),.d (.ivs N.us.length (fM N.us)),.d (.ivs N.start.length (ints N.start)),nI N.ls,nI N.kind,nI N.goal],nI (i:Int),nI q,nI l] [] = some (.d (.ivs 1 (ints [goI u.al u.nx q l])),[]):=by
 have g:=aYg hi2
 rw [hu] at g
 have e1:IntKind.i64.wrap ((i:Int) - N.ps.length) = ((i - N.ps.length:Nat):Int):=by
  rw [show (i:Int) - N.ps.length = ((i - N.ps.length:Nat):Int) by omega]
  exact FT (by omega) (by omega)
 have hc:(N.ps.length:Int) ≤ i:=by omega
 have hc1:((i - N.ps.length:Nat):Int) < N.us.length:=by omega
 have hc2:(0:Int) ≤ ((i - N.ps.length:Nat):Int):=by omega
 have kc_g:=@aSF L u.al q l u.nx u.ac.length (bools u.ac) hs hw hq0 hq1 h0 h6 hL
 clear hu
 generalize i - N.ps.length = z at *
 obtain _ | n:=n; omega
 rw [aIW]
 simp only [Y0,Tryz.f182,SLM,simprocAttr]
 simp -implicitDefEqProofs (maxSteps:=2000000) (disch:=try exact Dz) only [↓DN,↓kAsg,↓kRet,UP,simprocAttr,↓lI,↓aTi,↓aN9,↓aOC,↓aOc,NE,LA,List.length_map,List.length_drop,List.drop_drop,hc,hc1,hc2,g,e1,↓kc_g,Int.toNat_natCast]
 rfl
theorem sQ {L:Nat} (N:Net) (i:Nat) (q l:Int) (hi:N.ps.length ≤ i) (hi2:i - N.ps.length < N.us.length) (h1:N.ps.length ≤ 1000) (h2:N.us.length ≤ 1000) (u:Aut) (hu:N.us.getD (i - N.ps.length) default = u) (hs:a8 u.nx) (hw:pP (aB u.al).length u.nx) (hq0:0 ≤ q) (hq1:q < u.nx.length) (h0:0 ≤ l) (h6:l < 6) (hL:2 ^ 60 ≤ L):KC 5 L 182 [.agg [.d (.ivs N.ps.length (sysD N.ps)),.d (.ivs N.us.length (fM N.us)),.d (.ivs N.start.length (ints N.start)),nI N.ls,nI N.kind,nI N.goal],nI (i:Int),nI q,nI l] (.d (.ivs 1 (ints [goI u.al u.nx q l]))):=ks rfl (fun hn => yY hn N i q l hi hi2 h1 h2 u hu hs hw hq0 hq1 h0 h6 hL) rfl (.inr rfl)
end Ev
end Go.Proofs.YtejmccgfigiadaaGreat
