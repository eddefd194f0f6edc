/-
  What is handed to a law, as data: structs, slices, numbers, truth values, strings.
-/
import Derived.Test.YtejmccgfigiadaaGreatTop
import Derived.Deep.Slices
set_option linter.unusedSimpArgs false
set_option linter.unusedVariables false
namespace Go.Proofs.YtejmccgfigiadaaGreat
namespace Ev
open Go.ChangeShapes Go.WideShapes
def oD (P:Program):List Field → Nat → Nat → Bool
 | [],o,n => o == n
 | f :: fs,o,n => f.offset == o && oD P fs (o + P.cellsOf f.type) n
def HD (P:Program):Nat → TypeId → Bool
 | 0,_ => false
 | n + 1,t => match P.underlying t with
  | some .bool => true
  | some (.int _) => true
  | some .string => true
  | some (.slice e) => HD P n e && decide (0 < P.cellsOf e)
  | some (.struct fs) => fs.toList.all (fun f => HD P n f.type) && oD P fs.toList 0 (P.cellsOf t)
  | _ => false
def shpL (p:TypeId → List D → Prop):List Field → List D → Prop
 | [],ds => ds = []
 | f :: fs,ds => ∃ c r,ds = c ++ r ∧ p f.type c ∧ shpL p fs r
def Shp (P:Program):Nat → TypeId → List D → Prop
 | 0,_,_ => False
 | n + 1,t,ds => match P.underlying t with
  | some .bool => ∃ b,ds = [.bool b]
  | some (.int k) => ∃ m,ds = [.int k m] ∧ (Lit.int k m).wf = true
  | some .string => ∃ s,ds = [.str s] ∧ s.length ≤ maxLen
  | some (.slice e) => ∃ css:List (List D),ds = [.ivs css.length css.flatten] ∧ css.length ≤ maxLen ∧ ∀ c ∈ css,Shp P n e c
  | some (.struct fs) => shpL (Shp P n) fs.toList ds
  | _ => False
theorem aFK {w:World} {I:Nat → Prop}:∀ {cs:List D} {xs:List Value} {bs:List D} {ys:List Value},DRv w I cs xs → DRv w I bs ys → DRv w I (cs ++ bs) (xs ++ ys)
 | [],xs,bs,ys,h1,h2 => by simp only [DRv] at h1; subst h1; simpa using h2
 | a :: cs,xs,bs,ys,h1,h2 => by
  simp only [DRv] at h1
  obtain ⟨v,rest,rfl,hv,hr⟩:=h1
  simp only [List.cons_append,DRv]
  exact ⟨v,rest ++ ys,rfl,hv,aFK hr h2⟩
theorem aF4 {w:World} {I:Nat → Prop}:∀ {cs:List D} {xs:List Value},DRv w I cs xs → cs.length = xs.length
 | [],xs,h1 => by simp only [DRv] at h1; subst h1; rfl
 | a :: cs,xs,h1 => by
  simp only [DRv] at h1
  obtain ⟨v,rest,rfl,hv,hr⟩:=h1
  simp [aF4 hr]
theorem aF9 {w:World} {I:Nat → Prop} {b:Nat}:∀ {cs bs:List D} {o:Nat},DRs w I cs b o → DRs w I bs b (o + cs.length) → DRs w I (cs ++ bs) b o
 | [],bs,o,h1,h2 => by simpa using h2
 | a :: cs,bs,o,h1,h2 => by
  simp only [DRs,List.cons_append] at h1 ⊢
  exact ⟨h1.1,aF9 h1.2 (by simpa [Nat.add_assoc,Nat.add_comm 1] using h2)⟩
theorem aJp {w:World} {I:Nat → Prop} {b:Nat}:∀ {ds:List D} {vs:List Value} {o:Nat},DRv w I ds vs → (∀ (k:Nat) (v:Value),vs[k]? = some v → cA w b (o + k) = some v ∧ v.oneCell' = true) → DRs w I ds b o
 | [],_,_,_,_ => by simp only [DRs]
 | d :: ds,vs,o,h,hc => by
  simp only [DRv] at h
  obtain ⟨v,rest,rfl,hv,hr⟩:=h
  simp only [DRs]
  have h0:=hc 0 v rfl
  refine ⟨⟨v,by simpa using h0.1,hv,h0.2⟩,aJp hr fun k u hk => ?_⟩
  have:=hc (k + 1) u (by simpa using hk)
  rw [show o + 1 + k = o + (k + 1) by omega]
  exact this
section
variable {H:Type} {enc:TypeId × Value → H} {P:Program} {w:World} {base:Nat} {spare:Nat → Bool} {held:Bool}
theorem aBu {p:TypeId → List D → Prop} {cs:List Value}:∀ (fs:List Field) (o:Nat),oD P fs o cs.length = true → o ≤ cs.length →
  (∀ f ∈ fs,∃ ds,DRv w (oQ w) ds ((cs.drop f.offset).take (P.cellsOf f.type)) ∧ p f.type ds) → ∃ ds,DRv w (oQ w) ds (cs.drop o) ∧ shpL p fs ds
 | [],o,hc,ho,_ => by
  simp only [oD,beq_iff_eq] at hc
  subst hc
  exact ⟨[],by simp [DRv],by simp [shpL]⟩
 | f :: fs,o,hc,ho,hf => by
  simp only [oD,Bool.and_eq_true,beq_iff_eq] at hc
  obtain ⟨rfl,hc⟩:=hc
  have hle:∀ (fs:List Field) (o:Nat),oD P fs o cs.length = true → o ≤ cs.length:=by
   intro fs
   induction fs with
   | nil => intro o h; simp only [oD,beq_iff_eq] at h; omega
   | cons g gs ih => intro o h; simp only [oD,Bool.and_eq_true,beq_iff_eq] at h; have:=ih _ h.2; omega
  have h1:=hle _ _ hc
  obtain ⟨ds1,hd1,hp1⟩:=hf f (by simp)
  obtain ⟨ds2,hd2,hp2⟩:=aBu fs _ hc h1 fun g hg => hf g (by simp [hg])
  refine ⟨ds1 ++ ds2,?_,ds1,ds2,rfl,hp1,hp2⟩
  have:=aFK hd1 hd2
  rwa [← List.drop_drop,List.take_append_drop] at this
theorem I6:∀ (n fuel:Nat) (t:TypeId) (cs:List Value) (x:DataW H × List MemPlace),HD P n t = true → DataW.trod enc P w base spare held fuel t cs = some x → (∃ ds,DRv w (oQ w) ds cs ∧ Shp P n t ds) ∧ ∀ v ∈ cs,v.oneCell' = true
 | 0,_,_,_,_,h,_ => by simp [HD] at h
 | n + 1,fuel,t,cs,x,hp,hx => by
  unfold HD at hp
  split at hp
  ·rename_i ht
   obtain ⟨b,rfl,_⟩:=DataW.trod_bool ht hx
   refine ⟨⟨[.bool b],?_,?_⟩,?_⟩
   ·simp only [DRv,DR]; exact ⟨_,_,rfl,rfl,rfl⟩
   ·simp only [Shp,ht]; exact ⟨b,rfl⟩
   ·intro v hv; simp at hv; subst hv; rfl
  ·rename_i k ht
   obtain ⟨m,rfl,_,hw⟩:=DataW.trod_int ht hx
   refine ⟨⟨[.int k m],?_,?_⟩,?_⟩
   ·simp only [DRv,DR]; exact ⟨_,_,rfl,rfl,rfl⟩
   ·simp only [Shp,ht]; exact ⟨m,rfl,hw⟩
   ·intro v hv; simp at hv; subst hv; rfl
  ·rename_i ht
   obtain ⟨s,rfl,_,hs⟩:=DataW.trod_string ht hx
   refine ⟨⟨[.str s.data.toList],?_,?_⟩,?_⟩
   ·simp only [DRv,DR]; exact ⟨_,_,rfl,rfl,rfl⟩
   ·simp only [Shp,ht]; exact ⟨_,rfl,by simpa using hs⟩
   ·intro v hv; simp at hv; subst hv; rfl
  ·rename_i e ht
   simp only [Bool.and_eq_true,decide_eq_true_eq] at hp
   rcases DataW.trod_slice ht hx with ⟨rfl,_⟩ | ⟨a,len,cap,elems,rest,m,_,rfl,_,hb,hl,hm,hlen,hel,_,_⟩
   ·refine ⟨⟨[.ivs 0 []],?_,?_⟩,?_⟩
    ·simp only [DRv,DR]; exact ⟨_,_,rfl,⟨none,0,rfl,Nat.le_refl _,.inl trivial⟩,rfl⟩
    ·simp only [Shp,ht]; exact ⟨[],rfl,by simp,by simp⟩
    ·intro v hv; simp at hv; subst hv; rfl
   ·have hspot:0 < len → a.spot = none:=by
     intro h0
     have h1:=hel 0 h0
     rw [List.getElem?_eq_getElem (by omega)] at h1
     obtain ⟨cs',h2,h3⟩:=Option.bind_eq_some_iff.1 h1
     obtain ⟨_,hcl,hcell⟩:=World.cells?_some h2
     have h4:=hcell 0 hp.2
     have ea:(a.add (0 * P.cellsOf e)).add 0 = a:=by simp [Addr.add]
     rw [ea,List.getElem?_eq_getElem (by omega)] at h4
     exact World.cell?_spot h4
    have each:∀ i,i < len → ∃ ds,Shp P n e ds ∧ ds.length = P.cellsOf e ∧ ∃ b o,a = ⟨b,o,none⟩ ∧ b < w.heap.size ∧ DRs w (oQ w) ds b (o + i * P.cellsOf e):=by
     intro i hi
     have h1:=hel i hi
     rw [List.getElem?_eq_getElem (by omega)] at h1
     obtain ⟨cs',h2,h3⟩:=Option.bind_eq_some_iff.1 h1
     obtain ⟨⟨ds,hd,hs⟩,hone⟩:=I6 n m e cs' _ hp.1 h3
     obtain ⟨_,hcl,hcell⟩:=World.cells?_some h2
     have hdl:=aF4 hd
     obtain ⟨b,o,sp⟩:=a
     obtain rfl:sp = none:=hspot (by omega)
     have hcell':∀ k,k < P.cellsOf e → w.cell? ⟨b,o + i * P.cellsOf e + k,none⟩ = cs'[k]?:=by
      intro k hk
      have:=hcell k hk
      have ea:((⟨b,o,none⟩:Addr).add (i * P.cellsOf e)).add k = ⟨b,o + i * P.cellsOf e + k,none⟩:=by
       unfold Addr.add
       by_cases z1:i * P.cellsOf e = 0 <;> by_cases z2:k = 0 <;> simp [z1,z2,Nat.add_assoc]
      rw [ea] at this
      exact this
     have hlt:b < w.heap.size:=by
      have:=hcell' 0 hp.2
      rw [List.getElem?_eq_getElem (by omega),cell?_eq] at this
      unfold cA at this
      cases hx:w.heap[b]? with
      | none => rw [hx] at this; cases this
      | some o => exact (Array.getElem?_eq_some_iff.1 hx).1
     refine ⟨ds,hs,by omega,b,o,rfl,hlt,aJp hd fun k v hk => ?_⟩
     have hkl:=(List.getElem?_eq_some_iff.1 hk).1
     have:=hcell' k (by omega)
     rw [hk,cell?_eq] at this
     exact ⟨this,hone v (List.mem_of_getElem? hk)⟩
    have all:∀ k,k ≤ len → ∃ css:List (List D),css.length = k ∧ (∀ c ∈ css,Shp P n e c) ∧ css.flatten.length = k * P.cellsOf e ∧ (k = 0 ∨ ∃ b o,a = ⟨b,o,none⟩ ∧ b < w.heap.size ∧ DRs w (oQ w) css.flatten b o):=by
     intro k
     induction k with
     | zero => intro _; exact ⟨[],rfl,by simp,by simp,.inl rfl⟩
     | succ k ih =>
      intro hk
      obtain ⟨css,h1,h2,h3,h4⟩:=ih (by omega)
      obtain ⟨ds,s1,s2,b,o,ha,s3,s4⟩:=each k (by omega)
      refine ⟨css ++ [ds],by simp [h1],?_,by simp [h3,s2,Nat.add_mul],.inr ⟨b,o,ha,s3,?_⟩⟩
      ·intro c hc
       rcases List.mem_append.1 hc with hc | hc
       ·exact h2 c hc
       ·simp at hc; subst hc; exact s1
      ·have e1:(css ++ [ds]).flatten = css.flatten ++ ds:=by simp
       rw [e1]
       refine aF9 ?_ (by rw [h3]; exact s4)
       rcases h4 with h4 | ⟨b',o',ha',_,h5⟩
       ·subst h4
        have:css = []:=List.length_eq_zero_iff.1 h1
        subst this
        simp [DRs]
       ·rw [ha] at ha'
        cases ha'
        exact h5
    obtain ⟨css,h1,h2,h3,h4⟩:=all len (Nat.le_refl _)
    refine ⟨⟨[.ivs css.length css.flatten],?_,?_⟩,?_⟩
    ·simp only [DRv,DR]
     refine ⟨_,_,rfl,⟨some a,cap,by rw [h1],by omega,?_⟩,rfl⟩
     rcases h4 with h4 | ⟨b,o,ha,hb2,h5⟩
     ·left
      subst h4
      have:css = []:=List.length_eq_zero_iff.1 h1
      subst this; rfl
     ·exact .inr ⟨b,o,by rw [ha],hb2,h5⟩
    ·simp only [Shp,ht]; exact ⟨css,rfl,by omega,h2⟩
    ·intro v hv; simp at hv; subst hv; rfl
  ·rename_i fs ht
   simp only [Bool.and_eq_true,List.all_eq_true] at hp
   obtain ⟨xs,m,_,_,hl,hxl,hf⟩:=DataW.trod_struct ht hx
   have each:∀ f ∈ fs.toList,(∃ ds,DRv w (oQ w) ds ((cs.drop f.offset).take (P.cellsOf f.type)) ∧ Shp P n f.type ds) ∧ ∀ v ∈ (cs.drop f.offset).take (P.cellsOf f.type),v.oneCell' = true:=by
    intro f hfm
    obtain ⟨i,hi⟩:=List.getElem?_of_mem hfm
    have hil:=(List.getElem?_eq_some_iff.1 hi).1
    have h1:=hf i f (by simpa using hi)
    rw [List.getElem?_eq_getElem (by simpa [hxl] using hil)] at h1
    exact I6 n m f.type _ _ (hp.1 f hfm) h1
   rw [← hl] at hp
   obtain ⟨ds,hd,hs⟩:=aBu (p:=Shp P n) (cs:=cs) fs.toList 0 hp.2 (by omega) fun f hfm => (each f hfm).1
   refine ⟨⟨ds,by simpa using hd,by simp only [Shp,ht]; exact hs⟩,?_⟩
   have one:∀ (fs:List Field) (o:Nat),oD P fs o cs.length = true → (∀ f ∈ fs,∀ v ∈ (cs.drop f.offset).take (P.cellsOf f.type),v.oneCell' = true) → ∀ v ∈ cs.drop o,v.oneCell' = true:=by
    intro fs
    induction fs with
    | nil => intro o hc _ v hv; simp only [oD,beq_iff_eq] at hc; subst hc; simp at hv
    | cons g gs ih =>
     intro o hc hall v hv
     simp only [oD,Bool.and_eq_true,beq_iff_eq] at hc
     obtain ⟨rfl,hc⟩:=hc
     rw [← List.take_append_drop (P.cellsOf g.type) (cs.drop g.offset)] at hv
     rcases List.mem_append.1 hv with hv | hv
     ·exact hall g (by simp) v hv
     ·rw [List.drop_drop] at hv
      exact ih _ hc (fun f hf => hall f (by simp [hf])) v hv
   have:=one fs.toList 0 hp.2 fun f hfm => (each f hfm).2
   simpa using this
  ·cases hp
end
structure IsData (w:World) (v:Value) (ds:List D):Prop where
 rel:∀ h ρ,AR h ρ w (oQ w) (.agg (ds.map .d)) v
theorem aLx {w:World} {h:H} {ρ:Rho}:∀ {ds:List D} {vs:List Value},DRv w (oQ w) ds vs → ARv h ρ w (oQ w) (ds.map .d) vs
 | [],vs,hd => by simpa only [DRv,List.map_nil,ARv] using hd
 | d :: ds,vs,hd => by
  simp only [DRv] at hd
  obtain ⟨v,rest,rfl,hv,hr⟩:=hd
  simp only [List.map_cons,ARv]
  exact ⟨v,rest,rfl,by simpa only [AR] using hv,aLx hr⟩
theorem open_struct {P:Program} {H:Type} {enc:TypeId × Value → H} {W:World} {t:TypeId} {r:Reach} {b0:Nat} {v:Value} {d:DataW H} {p:List MemPlace} {fs:Array Field} (n:Nat) (ht:P.underlying t = some (.struct fs)) (hp:HD P n t = true) (hval:Value.okWide P W r b0 t v) (hd:DataW.Trod enc P W 0 (fun _ => true) true t v d p):∃ ds,Shp P n t ds ∧ IsData W v ds:=by
 obtain ⟨cs,rfl,_⟩:=okWide_struct ht hval
 obtain ⟨fuel,hf⟩:=hd
 obtain ⟨⟨ds,hdr,hs⟩,_⟩:=I6 n fuel t _ _ hp hf
 refine ⟨ds,hs,⟨fun h ρ => ?_⟩⟩
 simp only [AR]
 exact ⟨cs,rfl,aLx (by simpa [Value.cells] using hdr)⟩
end Ev
end Go.Proofs.YtejmccgfigiadaaGreat
