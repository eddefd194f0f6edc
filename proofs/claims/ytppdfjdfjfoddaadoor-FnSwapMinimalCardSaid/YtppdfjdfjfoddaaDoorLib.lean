/-
  What the types of the program are.
-/
import Derived.Test.YtppdfjdfjfoddaaDoorTy
import Derived.IntWalk
set_option linter.unusedSimpArgs false
namespace Go.Proofs.YtppdfjdfjfoddaaDoor
namespace Ev
theorem HG {n:Int} (h1:-9223372036854775808 ≤ n) (h2:n ≤ 9223372036854775807):IntKind.i64.wrap n = n:=IntWalk.i64_in n ⟨h1,h2⟩
theorem aKZ {n:Int} (h1:0 ≤ n) (h2:n ≤ 18446744073709551615):IntKind.u64.wrap n = n:=IntWalk.u64_in n ⟨h1,h2⟩
theorem aRX {n:Int} (h1:0 ≤ n) (h2:n ≤ 255):IntKind.u8.wrap n = n:=IntWalk.u8_in n ⟨h1,h2⟩
theorem KW:env.P.underlying 3 = some (.int .i64):=by kernel_rfl
theorem aRt:env.P.underlying 80 = some (.int .u64):=by kernel_rfl
theorem aIc:env.P.underlying 5 = some (.int .u8):=by kernel_rfl
theorem aMb:env.P.underlying 4 = some .bool:=by kernel_rfl
theorem ZN:env.P.underlying 9 = some .string:=by kernel_rfl
theorem dL:env.P.underlying 32 = some (.slice 3):=by kernel_rfl
theorem N8:env.P.underlying 22 = some (.slice 5):=by kernel_rfl
theorem dY:env.P.cellsOf 3 = 1:=by kernel_rfl
theorem VQ:env.P.cellsOf 5 = 1:=by kernel_rfl
theorem aRP:bJ env.P 3 = true:=by kernel_rfl
theorem aQP:bJ env.P 5 = true:=by kernel_rfl
theorem aRQ:bN env.P 3 = some (.d (.int .i64 0)):=by kernel_rfl
theorem aQG:bN env.P 5 = some (.d (.int .u8 0)):=by kernel_rfl
theorem QT {h:H} {n:Int} {K:IntKind}:gI env.P h 3 80 (.d (.int K n)) = some (.d (.int .u64 (IntKind.u64.wrap n)),h):=mQ KW aRt
theorem aCl {h:H} {n:Int} {K:IntKind}:gI env.P h 3 5 (.d (.int K n)) = some (.d (.int .u8 (IntKind.u8.wrap n)),h):=mQ KW aIc
def ints (l:List Int):List D:=l.map (.int .i64)
def bH (l:List UInt8):List D:=l.map fun b => .int .u8 b.toNat
abbrev rdO (c:List UInt8) (p:Int):O:=.box [.d (.ivs c.length (bH c)),.d (.int .i64 p)]
abbrev Dw (m f:Nat) (xs:List A) (r:A) (c:List UInt8) (p q:Int):Prop:=∀ (R:Type) (L n:Nat) (hq:H) (k:A → H → Option R),m ≤ n → 2 ^ 60 ≤ L → aL env (aA env L n) (rdO c p :: hq) f (.ptr 0 0 0 :: xs) k = k r (rdO c q :: hq)
theorem aIM:bB env.P 32 = some 3:=by simp only [bB,dL]
theorem aHh:bB env.P 22 = some 5:=by simp only [bB,N8]
theorem dQ {l:List Int}:(ints l).length = l.length:=by simp [ints]
theorem gZ {l:List Int} {v:Int}:ints l ++ [.int .i64 v] = ints (l ++ [v]):=by simp [ints]
theorem qS:ints [] = []:=rfl
theorem cY {l:List Int} {k:Nat} (h:l.length ≤ k):(ints l).take k = ints l:=List.take_of_length_le (by rw [dQ]; exact h)
theorem LT {l:List Int} {k:Nat} (h:k < l.length):(((ints l).drop k).map A.d).head? = some (.d (.int .i64 (l.getD k 0))):=by
 rw [List.head?_map,List.head?_drop,ints,List.getElem?_map,List.getD_eq_getElem?_getD,List.getElem?_eq_getElem h]
 rfl
section
theorem GX {α:Type} (f:α → D) (l:List α) (k:Nat) (v:α) (h:k < l.length):bS (l.map f) k [f v] = (l.set k v).map f:=by
 unfold bS
 rw [List.map_set]
 have:k < (l.map f).length:=by simpa using h
 generalize l.map f = m at *
 rw [List.set_eq_take_append_cons_drop,if_pos this]
 simp
theorem oM {l:List UInt8}:(bH l).length = l.length:=by simp [bH]
theorem aIZ:bH [] = []:=rfl
theorem aOs {e g:Nat}:O.arr [] e g = O.arr (ints []) e g:=rfl
theorem M0 {l:List UInt8} {v:UInt8}:bH l ++ [.int .u8 (v.toNat:Int)] = bH (l ++ [v]):=by simp [bH]
theorem DH {l:List UInt8} {k:Nat} (h:l.length ≤ k):(bH l).take k = bH l:=List.take_of_length_le (by rw [oM]; exact h)
theorem MU {l:List UInt8} {k:Nat} (h:k < l.length):(((bH l).drop k).map A.d).head? = some (.d (.int .u8 ((l.getD k 0).toNat:Int))):=by
 rw [List.head?_map,List.head?_drop,bH,List.getElem?_map,List.getD_eq_getElem?_getD,List.getElem?_eq_getElem h]
 rfl
theorem aJu {l:List UInt8} {k:Nat} {v:UInt8} (h:k < l.length):bS (bH l) k [.int .u8 (v.toNat:Int)] = bH (l.set k v):=GX _ l k v h
theorem JK {l:List Int} {k:Nat} {v:Int} (h:k < l.length):bS (ints l) k [.int .i64 v] = ints (l.set k v):=GX _ l k v h
theorem aDo:∀ l:List UInt8,IO (bH l) = some l
 | [] => rfl
 | b :: l => by
  have ih:=aDo l
  unfold bH at ih ⊢
  simp only [List.map_cons,IO,ih,Option.map_some]
  simp
theorem getElem?_zero_cons {o:O} {h:H}:(o :: h)[0]? = some o:=rfl
theorem aCJ {l:List UInt8} {g len:Nat} {h:H} (hl:len = l.length):gI env.P (.arr (bH l) 1 g :: h) 22 9 (.sl 0 g 0 len) = some (.d (.str l),.arr (bH l) 1 g :: h):=by
 subst hl
 simp only [gI,N8,ZN,aIc,cX,getElem?_zero_cons,oM,true_and,or_true,Nat.mul_one,Nat.zero_add,Nat.le_refl,and_self,if_true,List.drop_zero,DH (Nat.le_refl _),aDo,Option.map_some]
theorem aG4 {α:Type} (x:α):∀ n:Nat,(List.replicate n [x]).flatten = List.replicate n x
 | 0 => rfl
 | n + 1 => by simp [List.replicate_succ,aG4 x n]
theorem UO {n:Int} {h:H} (h0:0 ≤ n) (h1:n ≤ 4294967296):kK env.P h 32 n n = some (.sl h.length 0 0 n.toNat,h ++ [.arr (ints (List.replicate n.toNat 0)) 1 0]):=by
 have hm:n ≤ (bW:Nat):=by unfold bW; omega
 simp only [kK,aIM,aRQ,aO,AX,Option.map_some,aRP,h0,hm,dY,Int.le_refl,and_self,if_true,aG4,ints,List.map_replicate]
theorem aAz {i:Int} {s:List UInt8} (h0:0 ≤ i) (h:i < s.length):N2 env.P 9 (.d (.str s)) i = some (.d (.int .u8 ((s.getD i.toNat 0).toNat))):=by
 have hk:i.toNat < s.length:=by omega
 simp only [N2,ZN,if_pos h0,List.getD_eq_getElem?_getD,List.getElem?_eq_getElem hk,Option.map_some,Option.getD_some]
theorem aQU {o:O} {h:H} {id:Nat} (hs:h[id]? = some o):h.set id o = h:=by
 apply List.ext_getElem?
 intro j
 rw [List.getElem?_set]
 obtain ⟨hl,he⟩:=List.getElem?_eq_some_iff.1 hs
 by_cases e:id = j
 ·subst e; simp [hl,he]
 ·simp [e]
theorem uL {h:H} {id gen off esz:Nat} {t:TypeId} {cs:List D} {d:D} (hid:h[id]? = some (.arr cs esz gen)) (c1:env.P.cellsOf t = 1) (hi:(env.P.info? t).isSome = true) (hd:cV (.d d) = true) (hk:off < cs.length) :
  mP env.P h t (.ptr id gen off) (.d d) = some (h.set id (.arr (bS cs off [d]) esz gen)):=by
 have hc:(aO (.d d)).length = env.P.cellsOf t ∧ (env.P.info? t).isSome = true ∧ (aO (.d d)).all cV = true:=⟨by rw [c1]; rfl,hi,by simp [aO,hd]⟩
 have hf:frzL h (aO (.d d)) = some ([d],h):=rfl
 unfold mP
 rw [if_pos hc]
 simp only [hid,hf,c1,true_and]
 rw [if_pos (by omega)]
theorem aQQ:(env.P.info? 5).isSome = true:=by kernel_rfl
theorem aJD:(env.P.info? 3).isSome = true:=by kernel_rfl
theorem aMO:(env.P.info? 4).isSome = true:=by kernel_rfl
theorem vX:env.P.cellsOf 4 = 1:=by kernel_rfl
theorem aNF {h:H} {g e k:Nat} {l:List UInt8} {b:UInt8} (hk:k < l.length):mP env.P (.arr (bH l) e g :: h) 5 (.ptr 0 g k) (.d (.int .u8 (b.toNat:Int))) = some (.arr (bH (l.set k b)) e g :: h):=by
 rw [uL (id:=0) rfl VQ aQQ rfl (by rw [oM]; exact hk),aJu hk]
 rfl
theorem aIa {h:H} {g e k:Nat} {l:List Int} {b:Int} (hk:k < l.length):mP env.P (.arr (ints l) e g :: h) 3 (.ptr 0 g k) (.d (.int .i64 b)) = some (.arr (ints (l.set k b)) e g :: h):=by
 rw [uL (id:=0) rfl dY aJD rfl (by rw [dQ]; exact hk),JK hk]
 rfl
section
variable {t:TypeId} {h:H} {a b:List UInt8}
theorem aBO:dI env .eql t h (.d (.str a)) (.d (.str b)) = some (.d (.bool (a == b)),h):=by simp [dI,aBin]
theorem aCb:dI env .neq t h (.d (.str a)) (.d (.str b)) = some (.d (.bool (!(a == b))),h):=by simp [dI,aBin]
theorem aBB (hl:a.length + b.length ≤ 4294967296):dI env .add t h (.d (.str a)) (.d (.str b)) = some (.d (.str (a ++ b)),h):=by
 have:a.length + b.length ≤ bW:=hl
 simp [dI,aBin,this]
theorem aBE:dI env .lss t h (.d (.str a)) (.d (.str b)) = some (.d (.bool (Op.bytesLess a b)),h):=by simp [dI,aBin]
end
theorem toNat_lt (b:UInt8):b.toNat < 256:=b.toNat_lt
theorem aFn {b:UInt8}:IntKind.i64.wrap (b.toNat:Int) = b.toNat:=HG (by omega) (by have:=toNat_lt b; omega)
theorem J1 {l:List UInt8} {n:Nat} {lo hi:Option Int} {h:H} (hn:n = l.length) (h0:0 ≤ lo.getD 0) (h1:lo.getD 0 ≤ hi.getD l.length) (h2:hi.getD l.length ≤ l.length):iA env.P h 22 (.d (.ivs n (bH l))) lo hi = some (.d (.ivs ((l.drop (lo.getD 0).toNat).take ((hi.getD l.length).toNat - (lo.getD 0).toNat)).length (bH ((l.drop (lo.getD 0).toNat).take ((hi.getD l.length).toNat - (lo.getD 0).toNat))))):=by
 subst hn
 simp only [iA,N8,VQ,rU,h0,h1,h2,and_self,if_true,Nat.mul_one,Option.map_some,Nat.zero_lt_one,bH,List.map_take,List.map_drop]
 congr 3
 rw [List.length_take,List.length_drop]
 omega
theorem C5 {s:List UInt8} {lo hi:Option Int} {h:H} (h0:0 ≤ lo.getD 0) (h1:lo.getD 0 ≤ hi.getD s.length) (h2:hi.getD s.length ≤ s.length):iA env.P h 9 (.d (.str s)) lo hi = some (.d (.str ((s.drop (lo.getD 0).toNat).take ((hi.getD s.length).toNat - (lo.getD 0).toNat)))):=by
 simp only [iA,ZN,rU,h0,h1,h2,and_self,if_true,Option.map_some]
theorem XQ {l:List UInt8} {n:Nat} {u:Int} {h:H} (hn:n = l.length) (h0:0 ≤ u) (h1:u ≤ l.length):iA env.P h 22 (.d (.ivs n (bH l))) none (some u) = some (.d (.ivs (l.take u.toNat).length (bH (l.take u.toNat)))):=by
 rw [J1 hn (by simp) (by simpa using h0) (by simpa using h1)]; simp
theorem RR {l:List UInt8} {n:Nat} {u:Int} {h:H} (hn:n = l.length) (h0:0 ≤ u) (h1:u ≤ l.length):iA env.P h 22 (.d (.ivs n (bH l))) (some u) none = some (.d (.ivs (l.drop u.toNat).length (bH (l.drop u.toNat)))):=by
 rw [J1 hn (by simpa using h0) (by simpa using h1) (by simp)]
 have:(List.take (l.length - u.toNat) (l.drop u.toNat)) = l.drop u.toNat:=List.take_of_length_le (by simp)
 simp [this]
theorem X6 {s:List UInt8} {u:Int} {h:H} (h0:0 ≤ u) (h1:u ≤ s.length):iA env.P h 9 (.d (.str s)) none (some u) = some (.d (.str (s.take u.toNat))):=by
 rw [C5 (by simp) (by simpa using h0) (by simpa using h1)]; simp
theorem QV {s:List UInt8} {u:Int} {h:H} (h0:0 ≤ u) (h1:u ≤ s.length):iA env.P h 9 (.d (.str s)) (some u) none = some (.d (.str (s.drop u.toNat))):=by
 rw [C5 (by simpa using h0) (by simpa using h1) (by simp)]
 have:(List.take (s.length - u.toNat) (s.drop u.toNat)) = s.drop u.toNat:=List.take_of_length_le (by simp)
 simp [this]
theorem QR {s:List UInt8} {u v:Int} {h:H} (h0:0 ≤ u) (h1:u ≤ v) (h2:v ≤ s.length):iA env.P h 9 (.d (.str s)) (some u) (some v) = some (.d (.str ((s.drop u.toNat).take (v.toNat - u.toNat)))):=by
 rw [C5 (by simpa using h0) (by simpa using h1) (by simpa using h2)]; simp
theorem zM {h:H} {a b:Bool}:dI env .eql 4 h (.d (.bool a)) (.d (.bool b)) = some (.d (.bool (a == b)),h):=by simp [dI,aBin,aNil,aMb,eqlA]
theorem t9 {h:H} {a b:Bool}:dI env .neq 4 h (.d (.bool a)) (.d (.bool b)) = some (.d (.bool (!(a == b))),h):=by simp [dI,aBin,aNil,aMb,eqlA]
theorem LB:type_of% (AI @oM (AI @dQ (AI @MU (AI @LT (AI @DH (AI @cY (AI @M0 (AI @gZ (AI @aAz (AI @aBO (AI @aCb (AI @aBB (AI @aBE (AI @aFn (AI @zM (AI @t9 @Int.toNat_natCast)))))))))))))))) :=
 ⟨@oM,@dQ,@MU,@LT,@DH,@cY,@M0,@gZ,@aAz,@aBO,@aCb,@aBB,@aBE,@aFn,@zM,@t9,@Int.toNat_natCast⟩
theorem CV:type_of% (AI @XQ (AI @RR (AI @X6 (AI @QV @QR)))) :=
 ⟨@XQ,@RR,@X6,@QV,@QR⟩
theorem DN:type_of% (AI @WD (AI @aB2 (AI @WDD (AI @aA6 @CV)))) :=
 ⟨@WD,@aB2,@WDD,@aA6,@CV⟩
theorem Dz {p:Prop} (h:p:=by first | assumption | exact ⟨by kernel_rfl⟩ | omega | (simp only [GT,LN] <;> omega)):p:=h
theorem UP:type_of% (AI @WK (AI @UN (AI @TY (AI @LB (AI @MD @HG))))) :=
 ⟨@WK,@UN,@TY,@LB,@MD,@HG⟩
end
end Ev
end Go.Proofs.YtppdfjdfjfoddaaDoor
