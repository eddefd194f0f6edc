/-
  A function that draws an automaton, as its callers see it.
-/
import Derived.Test.YtppdfjdfjfoddaaDoorDrawR
set_option linter.unusedSimpArgs false
set_option linter.unusedVariables false
set_option maxRecDepth 8000
set_option maxHeartbeats 4000000
namespace Go.Proofs.YtppdfjdfjfoddaaDoor
namespace Ev
theorem aHX {R:Type} {call:a7} {hq:H} {f:FuncId} {args:List A} {c:List UInt8} {p q al:Int} {rs:List (List Int)} {ac:List Bool} {k:A → H → Option R} (hm:(env.hint f).mode = 0) (ha:idsL args = []) (he:call f (.ptr 0 0 0 :: args) [rdO c p] = some (autA 1 al rs.length ac.length,rdO c q :: autO 1 rs ac)) :
  aL env call (rdO c p :: hq) f (.ptr 0 0 0 :: args) k = k (autA (hq.length + 1) al rs.length ac.length) (rdO c q :: (hq ++ autO (hq.length + 1) rs ac)):=by
 have hid:idsL (A.ptr 0 0 0 :: args) = [0]:=by simp [idsL,idsA,ha]
 have hre:aF aG (rdO c p :: hq) [0] [] = [0]:=rfl
 have hpk:pack (rdO c p :: hq) [0] = [rdO c p]:=rfl
 have hma:aH (aK [0]) (A.ptr 0 0 0 :: args) = A.ptr 0 0 0 :: args:=by
  simp only [aH,mK _ ha]; rfl
 have hc:dO call env.hint [rdO c p] f (.ptr 0 0 0 :: args) = some (autA 1 al rs.length ac.length,rdO c q :: autO 1 rs ac):=by
  unfold dO; rw [hm]; exact he
 have hcl:closed (rdO c p :: hq) [0] [0] = true:=rfl
 have hb:∀ i,i < rs.length + 2 → back [0] (hq.length + 1) (rs.length + 3) (1 + i) = some (hq.length + 1 + i):=by
  intro i hi
  unfold back
  rw [if_neg (by simp),if_pos (by omega)]
  simp
 have hmp:(autO 1 rs ac).map (mapO (back [0] (hq.length + 1) (rs.length + 3))) = autO (hq.length + 1) rs ac:=by
  simp only [autO,List.map_cons]
  rw [aIz (d:=hq.length + 1 + 2) fun i hi => by rw [show 1 + 2 + i = 1 + (2 + i) by omega,hb _ (by omega)]; congr 1; omega,aFF]
  rfl
 have hrm:mapA (back [0] (hq.length + 1) (rs.length + 3)) (autA 1 al rs.length ac.length) = autA (hq.length + 1) al rs.length ac.length :=
  aGO (by simpa using hb 0 (by omega)) (hb 1 (by omega))
 have hlen:(rdO c q :: autO 1 rs ac).length = rs.length + 3:=by rw [List.length_cons,PR]
 unfold aL
 rw [hid,hre,hpk,hma,hc]
 simp only [hlen,List.length_cons,List.length_nil,hcl,hrm,Nat.zero_add,show 1 ≤ rs.length + 3 by omega,and_self,if_true]
 simp only [bG,List.set_cons_zero,hmp]
 congr 1
theorem VR {t:H} {y1 y2:D} {v n m:Nat} {al:Int} {rs:List (List Int)} {ac:List Bool} (k:Has (.box [.d y1,.d y2] :: t) v rs ac) (hv:1 ≤ v) (hn:n = rs.length) (hm:m = ac.length) :
  ∃ h2,rK 1 false (.box [.d y1,.d y2] :: t) [.agg [.d (.int .i64 al),.sl v 0 0 n,.sl (v + 1) 0 0 m]] = some ([autD al rs ac],h2) ∧ aF 1099511627776 h2 (gE (List.take 1 h2)) [0] = [0] ∧ List.getD h2 0 default = .box [.d y1,.d y2]:=by
 subst hn; subst hm
 obtain ⟨ha,e1,i1⟩:=VJ 4 (aDe _) (aRr k)
 obtain ⟨hb,e2,i2⟩:=VJ 4 i1 (aRI k)
 have h0:hb[0]? = some (.box [.d y1,.d y2]):=by
  rcases i2 0 with h | ⟨_,_,_,h,_⟩ | ⟨_,_,_,_,h,_⟩
  ·rw [h]; rfl
  ·cases h
  ·cases h
 obtain ⟨t2,rfl⟩:∃ t2,hb = .box [.d y1,.d y2] :: t2:=by
  cases hb with
  | nil => simp at h0
  | cons o t2 => simp at h0; exact ⟨t2,by rw [h0]⟩
 refine ⟨.box [.d y1,.d y2] :: t2,?_,rfl,rfl⟩
 have hv1:¬ (v < 1):=by omega
 have hv2:¬ (v + 1 < 1):=by omega
 simp only [rK,outA,AQ,outS,hv1,hv2,decide_false,Bool.false_or,Bool.or_false,Bool.or_self,Bool.false_eq_true,if_false]
 rw [show deep = 4 + 1 from rfl,e1]
 simp only [Option.map_some]
 rw [e2]
 rfl
theorem VF {h:H} {v:Nat} {rs:List (List Int)} {ac:List Bool} {p:H} (hd:h.length = v):Has (h ++ (.vec (aD (v + 2) rs ++ aI 0) 1 0 :: .arr (aB ac) 1 0 :: (aJ rs ++ p))) v rs ac:=by
 subst hd
 have:=aRd (h2:=p) (aQJ (h:=h) (rs:=rs) (ac:=ac))
 simpa [autO] using this
theorem aJr:(env.hint 91).mode = 0:=by kernel_rfl
theorem YI {R:Type} {L n:Nat} {hq:H} {c:List UInt8} {p q al st:Int} {rs:List (List Int)} {ac:List Bool} {k:A → H → Option R} (hn:3 ≤ n) (hL:2 ^ 60 ≤ L)
  (he:∀ (L n:Nat),3 ≤ n → 2 ^ 60 ≤ L → aA env L n 91 [.ptr 0 0 0,.d (.int .i64 al),.d (.int .i64 st)] [rdO c p] = some (autA 1 al rs.length ac.length,rdO c q :: autO 1 rs ac)) :
  aL env (aA env L n) (rdO c p :: hq) 91 [.ptr 0 0 0,.d (.int .i64 al),.d (.int .i64 st)] k = k (autA (hq.length + 1) al rs.length ac.length) (rdO c q :: (hq ++ autO (hq.length + 1) rs ac)) :=
 aHX aJr (by simp [idsL,idsA]) (he L n hn hL)
end Ev
end Go.Proofs.YtppdfjdfjfoddaaDoor
