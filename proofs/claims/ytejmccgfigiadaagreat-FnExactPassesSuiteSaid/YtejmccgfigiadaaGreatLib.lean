/-
  What the types of the program are.
-/
import Derived.Test.YtejmccgfigiadaaGreatTy
import Derived.IntWalk
set_option linter.unusedSimpArgs false
namespace Go.Proofs.YtejmccgfigiadaaGreat
namespace Ev
theorem w8 {n:Int} (h1:-9223372036854775808 ≤ n) (h2:n ≤ 9223372036854775807):IntKind.i64.wrap n = n:=IntWalk.i64_in n ⟨h1,h2⟩
theorem aHL {n:Int} (h1:0 ≤ n) (h2:n ≤ 18446744073709551615):IntKind.u64.wrap n = n:=IntWalk.u64_in n ⟨h1,h2⟩
theorem aMS {n:Int} (h1:0 ≤ n) (h2:n ≤ 255):IntKind.u8.wrap n = n:=IntWalk.u8_in n ⟨h1,h2⟩
theorem aHA:env.P.underlying 3 = some (.int .i64):=kr
theorem aMH:env.P.underlying 82 = some (.int .u64):=kr
theorem PC:env.P.underlying 5 = some (.int .u8):=kr
theorem aMP:env.P.underlying 4 = some .bool:=kr
theorem aEa:env.P.underlying 9 = some .string:=kr
theorem aMq:env.P.underlying 90 = some (.slice 3):=kr
theorem aLA:env.P.underlying 41 = some (.slice 5):=kr
theorem aGE:env.P.cellsOf 3 = 1:=kr
theorem aL5:env.P.cellsOf 5 = 1:=kr
theorem aMU:eM env.P 3 = true:=kr
theorem aMX:cX env.P 3 = some (nI 0):=kr
theorem J1 {h:H} {n:Int} {K:IntKind}:eD env.P h 3 82 (.d (.int K n)) = some (.d (.int .u64 (IntKind.u64.wrap n)),h):=wU aHA aMH
theorem ZG {h:H} {n:Int} {K:IntKind}:eD env.P h 3 5 (.d (.int K n)) = some (.d (.int .u8 (IntKind.u8.wrap n)),h):=wU aHA PC
theorem FQ {h:H} {n:Int} {K:IntKind}:eD env.P h 5 3 (.d (.int K n)) = some (nI (IntKind.i64.wrap n),h):=wU PC aHA
def ints (l:List Int):List D:=l.map (.int .i64)
def bS (l:List UInt8):List D:=l.map fun b => .int .u8 b.toNat
abbrev rdO (c:List UInt8) (p:Int):O:=.box [.d (.ivs c.length (bS c)),nI p]
abbrev Dw (m f:Nat) (xs:List A) (r:A) (c:List UInt8) (p q:Int):Prop:=∀ (R:Type) (L n:Nat) (hq:H) (k:KA R),m ≤ n → 2 ^ 60 ≤ L → aS env (aA env L n) (rdO c p :: hq) f (.ptr 0 0 0 :: xs) k = k r (rdO c q :: hq)
abbrev KC (d L:Nat) (f:Nat) (xs:List A) (r:A):Prop:=∀ (R:Type) (n:Nat) (hq:H) (k:KA R),d ≤ n → aS env (aA env L n) hq f xs k = k r hq
theorem ks {d L:Nat} {f:Nat} {xs:List A} {r:A} (h2:∀ {n:Nat},d ≤ n → aA env L n f xs [] = some (r,[])) (h1:xs.all lZ = true:=by rfl) (h3:idsA r = []:=by rfl) (h4:fH r = true ∨ ((env.hint f).mode == 1 || (env.hint f).mode == 3) = false:=by first | exact .inl rfl | exact .inr rfl):KC d L f xs r:=fun _ _ _ _ hn => cP h1 (h2 hn) h3 h4
abbrev KT (d L:Nat) (f:Nat) (xs:List A) (r:A):Prop:=∀ (R:Type) (n:Nat) (k:A → Option R),d ≤ n → nH (aA env L n) f xs k = k r
theorem kt {d L:Nat} {f:Nat} {xs:List A} {r:A} (h2:∀ {n:Nat},d ≤ n → aA env L n f xs [] = some (r,[])) (h:fH r = true:=by rfl):KT d L f xs r:=fun _ _ _ hn => gF (h2 hn) h
abbrev KV (L:Nat) (f:Nat) (xs:List A):Prop:=∀ (R:Type) (n:Nat) (hq:H) (k:KA R),aS env (aA env L n) hq f xs k = match box (D9 hq xs) with
 | .mk (some fs) => nH (aA env L n) f fs fun r => k r hq
 | _ => none
theorem aHp:dG env.P 90 = some 3:=by simp only [dG,aMq]
theorem eK {l:List Int}:(ints l).length = l.length:=by simp [ints]
theorem aA7 {l:List Int} {v:Int}:ints l ++ [.int .i64 v] = ints (l ++ [v]):=by simp [ints]
theorem rW:ints [] = []:=rfl
theorem dR {l:List Int} {k:Nat} (h:l.length ≤ k):(ints l).take k = ints l:=List.take_of_length_le (by rw [eK]; exact h)
theorem M1 {l:List Int} {k:Nat} (h:k < l.length):(((ints l).drop k).map A.d).head? = some (nI (l.getD k 0)):=by
 rw [List.head?_map,List.head?_drop,ints,List.getElem?_map,List.getD_eq_getElem?_getD,List.getElem?_eq_getElem h]
 rfl
section
theorem uA {α:Type} (f:α → D) (l:List α) (k:Nat) (v:α) (h:k < l.length):cG (l.map f) k [f v] = (l.set k v).map f:=by
 unfold cG
 rw [List.map_set]
 have:k < (l.map f).length:=by simpa using h
 generalize l.map f = m at *
 rw [List.set_eq_take_append_cons_drop,if_pos this]
 simp
theorem mI {l:List UInt8}:(bS l).length = l.length:=by simp [bS]
theorem aGt:bS [] = []:=rfl
theorem aKH {e g:Nat}:O.arr [] e g = O.arr (ints []) e g:=rfl
theorem QP {l:List UInt8} {v:UInt8}:bS l ++ [.int .u8 (v.toNat:Int)] = bS (l ++ [v]):=by simp [bS]
theorem FH {l:List UInt8} {k:Nat} (h:l.length ≤ k):(bS l).take k = bS l:=List.take_of_length_le (by rw [mI]; exact h)
theorem RB {l:List UInt8} {k:Nat} (h:k < l.length):(((bS l).drop k).map A.d).head? = some (.d (.int .u8 ((l.getD k 0).toNat:Int))):=by
 rw [List.head?_map,List.head?_drop,bS,List.getElem?_map,List.getD_eq_getElem?_getD,List.getElem?_eq_getElem h]
 rfl
theorem aHz {l:List UInt8} {k:Nat} {v:UInt8} (h:k < l.length):cG (bS l) k [.int .u8 (v.toNat:Int)] = bS (l.set k v):=uA _ l k v h
theorem aEb {l:List Int} {k:Nat} {v:Int} (h:k < l.length):cG (ints l) k [.int .i64 v] = ints (l.set k v):=uA _ l k v h
theorem aAY:∀ l:List UInt8,BF (bS l) = some l
 | [] => rfl
 | b :: l => by
  have ih:=aAY l
  unfold bS at ih ⊢
  simp only [List.map_cons,BF,ih,Option.map_some]
  simp
theorem getElem?_zero_cons {o:O} {h:H}:(o :: h)[0]? = some o:=rfl
theorem HI {l:List UInt8} {g len:Nat} {h:H} (hl:len = l.length):eD env.P (.arr (bS l) 1 g :: h) 41 9 (.sl 0 g 0 len) = some (.d (.str l),.arr (bS l) 1 g :: h):=by
 subst hl
 simp only [eD,aLA,aEa,PC,dU,getElem?_zero_cons,mI,or_true,Nat.mul_one,Nat.zero_add,Nat.le_refl,and_self,if_true,List.drop_zero,FH (Nat.le_refl _),aAY,Option.map_some]
theorem I9 {α:Type} (x:α):∀ n:Nat,(List.replicate n [x]).flatten = List.replicate n x
 | 0 => rfl
 | n + 1 => by simp [List.replicate_succ,I9 x n]
theorem xO {n:Int} {h:H} (h0:0 ≤ n) (h1:n ≤ 4294967296):d8 env.P h 90 n n = some (.sl h.length 0 0 n.toNat,h ++ [.arr (ints (List.replicate n.toNat 0)) 1 0]):=by
 have hm:n ≤ (bF:Nat):=by unfold bF; omega
 simp only [d8,aHp,aMX,aR,nP,Option.map_some,aMU,h0,hm,aGE,Int.le_refl,and_self,if_true,I9,ints,List.map_replicate]
theorem XU {i:Int} {s:List UInt8} (h0:0 ≤ i) (h:i < s.length):HG env.P 9 (.d (.str s)) i = some (.d (.int .u8 ((s.getD i.toNat 0).toNat))):=by
 have hk:i.toNat < s.length:=by omega
 simp only [HG,aEa,if_pos h0,List.getD_eq_getElem?_getD,List.getElem?_eq_getElem hk,Option.map_some,Option.getD_some]
theorem take_set {α:Type} {l:List α} {k:Nat} {v:α} (h:k < l.length):(l.set k v).take (k + 1) = l.take k ++ [v]:=by
 rw [List.take_set,List.take_add_one,List.getElem?_eq_getElem h]
 simp only [Option.toList_some]
 have hl:(l.take k).length = k:=by rw [List.length_take]; omega
 rw [List.set_append_right _ _ (by omega),hl,Nat.sub_self]
 rfl
theorem lE {h:H} {id gen off esz:Nat} {t:TypeId} {cs:List D} {d:D} (hid:h[id]? = some (.arr cs esz gen)) (c1:env.P.cellsOf t = 1) (hi:(env.P.info? t).isSome = true) (hd:dO (.d d) = true) (hk:off < cs.length) :
  gT env.P h t (.ptr id gen off) (.d d) = some (h.set id (.arr (cG cs off [d]) esz gen)):=by
 have hc:(aR (.d d)).length = env.P.cellsOf t ∧ (env.P.info? t).isSome = true ∧ (aR (.d d)).all dO = true:=⟨by rw [c1]; rfl,hi,by simp [aR,hd]⟩
 have hf:frzL h (aR (.d d)) = some ([d],h):=rfl
 unfold gT
 rw [if_pos hc]
 simp only [hid,hf,c1,true_and]
 rw [if_pos (by omega)]
theorem aMf:(env.P.info? 5).isSome = true:=kr
theorem aK7:(env.P.info? 3).isSome = true:=kr
theorem aEw:(env.P.info? 4).isSome = true:=kr
theorem UD:env.P.cellsOf 4 = 1:=kr
theorem aKF {h:H} {g e k:Nat} {l:List UInt8} {b:UInt8} (hk:k < l.length):gT env.P (.arr (bS l) e g :: h) 5 (.ptr 0 g k) (.d (.int .u8 (b.toNat:Int))) = some (.arr (bS (l.set k b)) e g :: h):=by
 rw [lE (id:=0) rfl aL5 aMf rfl (by rw [mI]; exact hk),aHz hk]
 rfl
theorem HB {h:H} {g e k:Nat} {l:List Int} {b:Int} (hk:k < l.length):gT env.P (.arr (ints l) e g :: h) 3 (.ptr 0 g k) (nI b) = some (.arr (ints (l.set k b)) e g :: h):=by
 rw [lE (id:=0) rfl aGE aK7 rfl (by rw [eK]; exact hk),aEb hk]
 rfl
theorem aF7 {o:O} {h:H} {g e k:Nat} {l:List Int} {b:Int} (hk:k < l.length):gT env.P (o :: .arr (ints l) e g :: h) 3 (.ptr 1 g k) (nI b) = some (o :: .arr (ints (l.set k b)) e g :: h):=by
 rw [lE (id:=1) rfl aGE aK7 rfl (by rw [eK]; exact hk),aEb hk]
 rfl
section
variable {t:TypeId} {h:H} {a b:List UInt8}
theorem V7:bN env .eql t h (.d (.str a)) (.d (.str b)) = some (.d (.bool (a == b)),h):=by simp [bN,aBin]
theorem VX (hl:a.length + b.length ≤ 4294967296):bN env .add t h (.d (.str a)) (.d (.str b)) = some (.d (.str (a ++ b)),h):=by
 have:a.length + b.length ≤ bF:=hl
 simp [bN,aBin,this]
theorem XK:bN env .lss t h (.d (.str a)) (.d (.str b)) = some (.d (.bool (Op.bytesLess a b)),h):=by simp [bN,aBin]
end
theorem toNat_lt (b:UInt8):b.toNat < 256:=b.toNat_lt
theorem aCW {b:UInt8}:IntKind.i64.wrap (b.toNat:Int) = b.toNat:=w8 (by omega) (by have:=toNat_lt b; omega)
theorem VG {h:H} {a b:Bool}:bN env .neq 4 h (.d (.bool a)) (.d (.bool b)) = some (.d (.bool (!(a == b))),h):=by simp [bN,aBin,aNil,aMP,eqlA]
theorem LB:type_of% (AI @mI (AI @eK (AI @RB (AI @M1 (AI @FH (AI @dR (AI @QP (AI @aA7 (AI @XU (AI @V7 (AI @VX (AI @XK (AI @aCW (AI @VG @Int.toNat_natCast)))))))))))))) :=
 ⟨@mI,@eK,@RB,@M1,@FH,@dR,@QP,@aA7,@XU,@V7,@VX,@XK,@aCW,@VG,@Int.toNat_natCast⟩
theorem DN:type_of% (AI @WD (AI @XN (AI @WDD @VZ))) :=
 ⟨@WD,@XN,@WDD,@VZ⟩
theorem Dz {p:Prop} (h:p:=by first | assumption | exact ⟨by kernel_rfl⟩ | omega | (simp only [GT,LN] <;> omega)):p:=h
theorem UP:type_of% (AI @SLM (AI @WK (AI @UN (AI @TY (AI @LB (AI @MD @w8)))))) :=
 ⟨@SLM,@WK,@UN,@TY,@LB,@MD,@w8⟩
end
end Ev
end Go.Proofs.YtejmccgfigiadaaGreat
