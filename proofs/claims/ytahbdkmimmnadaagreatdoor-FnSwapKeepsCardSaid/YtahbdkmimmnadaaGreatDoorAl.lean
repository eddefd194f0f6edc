/-
  Short names.
-/
import Derived.Tactics
namespace Go.Proofs.YtahbdkmimmnadaaGreatDoor
namespace Ev
theorem om{p:Prop}(h:p:=by omega):p:=h
theorem sm{p:Prop}(h:p:=by simp):p:=h
theorem nfn{p:Prop}(h:p:=by nofun):p:=h
theorem dc{p:Prop}(h:p:=by decide):p:=h
theorem Aa.{u0}:type_of% @List.getD_eq_getElem?_getD.{u0}:= @List.getD_eq_getElem?_getD
theorem Ab.{u0}:type_of% @List.length_nil.{u0}:= @List.length_nil
theorem Ac.{u0}:type_of% @List.length_cons.{u0}:= @List.length_cons
theorem Ad:type_of% @Nat.le_refl:= @Nat.le_refl
theorem Ae.{u0}:type_of% @List.getElem?_eq_getElem.{u0}:= @List.getElem?_eq_getElem
theorem Af.{u0,u1}:type_of% @List.map_cons.{u0,u1}:= @List.map_cons
theorem Ag:type_of% @Nat.zero_add:= @Nat.zero_add
theorem Ah.{u0}:type_of% @List.append_nil.{u0}:= @List.append_nil
theorem Ai.{u0}:type_of% @List.length_append.{u0}:= @List.length_append
theorem Aj:type_of% @Bool.and_eq_true:= @Bool.and_eq_true
theorem Ak:type_of% @Int.lt_irrefl:= @Int.lt_irrefl
theorem Al.{u0,u1}:type_of% @List.map_nil.{u0,u1}:= @List.map_nil
theorem Am.{u0}:type_of% @List.nil_append.{u0}:= @List.nil_append
theorem Ao.{u0}:type_of% @List.append_assoc.{u0}:= @List.append_assoc
theorem Ap:type_of% @Bool.false_eq_true:= @Bool.false_eq_true
theorem Aq.{u0}:type_of% @List.mem_append.{u0}:= @List.mem_append
theorem Ar.{u0,u1}:type_of% @List.length_map.{u0,u1}:= @List.length_map
theorem As.{u0}:type_of% @List.cons_append.{u0}:= @List.cons_append
theorem At.{u0}:type_of% @List.getElem?_eq_some_iff.{u0}:= @List.getElem?_eq_some_iff
theorem Au.{u0}:type_of% @List.mem_cons.{u0}:= @List.mem_cons
theorem Av.{u0}:type_of% @List.getElem?_cons_succ.{u0}:= @List.getElem?_cons_succ
theorem Aw:type_of% @Int.natCast_zero:= @Int.natCast_zero
theorem Ax.{u0}:type_of% @List.drop_zero.{u0}:= @List.drop_zero
theorem Ay.{u0,u1}:type_of% @Option.map_some.{u0,u1}:= @Option.map_some
theorem Az.{u0,u1}:type_of% @Option.map_eq_some_iff.{u0,u1}:= @Option.map_eq_some_iff
theorem Ba.{u0}:type_of% @List.getElem_mem.{u0}:= @List.getElem_mem
theorem Bb.{u0,u1}:type_of% @List.getElem?_map.{u0,u1}:= @List.getElem?_map
theorem Bc.{u0}:type_of% @List.mem_cons_of_mem.{u0}:= @List.mem_cons_of_mem
theorem Bd.{u0}:type_of% @Option.getD_some.{u0}:= @Option.getD_some
theorem Be.{u0}:type_of% @List.getElem?_append_left.{u0}:= @List.getElem?_append_left
theorem Bf.{u0,u1}:type_of% @List.mem_map.{u0,u1}:= @List.mem_map
theorem Bg.{u0}:type_of% @List.mem_cons_self.{u0}:= @List.mem_cons_self
theorem Bh.{u0}:type_of% @List.all_eq_true.{u0}:= @List.all_eq_true
theorem Bi.{u0}:type_of% @List.mem_singleton.{u0}:= @List.mem_singleton
theorem Bj.{u0}:type_of% @List.length_drop.{u0}:= @List.length_drop
theorem Bk:type_of% @Nat.le_trans:= @Nat.le_trans
theorem Bl.{u0}:type_of% @List.drop_length.{u0}:= @List.drop_length
theorem Bm:type_of% @Nat.add_zero:= @Nat.add_zero
theorem Bn.{u0}:type_of% @Array.getElem?_eq_some_iff.{u0}:= @Array.getElem?_eq_some_iff
theorem Bo.{u0}:type_of% @List.mem_of_getElem?.{u0}:= @List.mem_of_getElem?
theorem Bp.{u0}:type_of% @List.all_cons.{u0}:= @List.all_cons
theorem Bq.{u0}:type_of% @List.getElem?_append_right.{u0}:= @List.getElem?_append_right
theorem Br.{u0}:type_of% @List.drop_drop.{u0}:= @List.drop_drop
theorem Bs.{u0}:type_of% @List.length_eq_zero_iff.{u0}:= @List.length_eq_zero_iff
theorem Bt.{u0}:type_of% @List.length_set.{u0}:= @List.length_set
theorem Bu:type_of% @Nat.mul_one:= @Nat.mul_one
theorem Bv.{u0}:type_of% @List.not_mem_nil.{u0}:= @List.not_mem_nil
theorem Bw:type_of% @Nat.add_mul:= @Nat.add_mul
theorem Bx:type_of% @Bool.and_self:= @Bool.and_self
theorem By.{u0}:type_of% @List.set_cons_succ.{u0}:= @List.set_cons_succ
theorem Bz:type_of% @Nat.not_lt_zero:= @Nat.not_lt_zero
theorem Ca.{u0}:type_of% @List.take_of_length_le.{u0}:= @List.take_of_length_le
theorem Cb:type_of% @Int.le_refl:= @Int.le_refl
theorem Cc.{u0}:type_of% @List.all_nil.{u0}:= @List.all_nil
theorem Cd:type_of% @Int.mul_nonneg:= @Int.mul_nonneg
theorem Ce.{u0}:type_of% @List.set_cons_zero.{u0}:= @List.set_cons_zero
theorem Cf:type_of% @Int.toNat_zero:= @Int.toNat_zero
theorem Cg.{u0}:type_of% @List.getElem?_eq_none.{u0}:= @List.getElem?_eq_none
theorem Ch.{u0}:type_of% @List.getElem?_cons_zero.{u0}:= @List.getElem?_cons_zero
theorem Ci.{u0}:type_of% @List.length_singleton.{u0}:= @List.length_singleton
theorem Cj.{u0}:type_of% @List.ext_getElem?.{u0}:= @List.ext_getElem?
theorem Ck:type_of% @Nat.add_comm:= @Nat.add_comm
theorem Cl:type_of% @Int.tdiv_nonneg:= @Int.tdiv_nonneg
theorem Cm:type_of% @Int.mul_le_mul_of_nonneg_right:= @Int.mul_le_mul_of_nonneg_right
theorem Cn:type_of% @Int.toNat_of_nonneg:= @Int.toNat_of_nonneg
theorem Co.{u0,u1}:type_of% @List.foldl_cons.{u0,u1}:= @List.foldl_cons
theorem Cp:type_of% @Nat.sub_self:= @Nat.sub_self
theorem Cq.{u0}:type_of% @List.mem_reverse.{u0}:= @List.mem_reverse
theorem Cr:type_of% @Nat.lt_or_ge:= @Nat.lt_or_ge
theorem Cs.{u0}:type_of% @List.take_length.{u0}:= @List.take_length
theorem Ct:type_of% @Int.toNat_natCast:= @Int.toNat_natCast
theorem Cu.{u0}:type_of% @List.getElem?_set.{u0}:= @List.getElem?_set
theorem Cv.{u0}:type_of% @List.length_take.{u0}:= @List.length_take
theorem Cw:type_of% @Nat.zero_le:= @Nat.zero_le
theorem Cx:type_of% @List.mem_range'_1:= @List.mem_range'_1
theorem Cy:type_of% @Int.le_trans:= @Int.le_trans
theorem Cz.{u0}:type_of% @List.mem_filter.{u0}:= @List.mem_filter
theorem Da.{u0}:type_of% @List.drop_eq_getElem_cons.{u0}:= @List.drop_eq_getElem_cons
theorem Db:type_of% @Nat.lt_of_lt_of_le:= @Nat.lt_of_lt_of_le
theorem Dc.{u0}:type_of% @List.head?_drop.{u0}:= @List.head?_drop
theorem Dd:type_of% @Nat.add_assoc:= @Nat.add_assoc
theorem De:type_of% @Nat.eq_zero_or_pos:= @Nat.eq_zero_or_pos
theorem Df.{u0,u1}:type_of% @Option.bind_some.{u0,u1}:= @Option.bind_some
theorem Dg.{u0}:type_of% @List.drop_succ_cons.{u0}:= @List.drop_succ_cons
theorem Dh.{u0}:type_of% @List.getElem?_take.{u0}:= @List.getElem?_take
theorem Di.{u0,u1}:type_of% @Option.map_none.{u0,u1}:= @Option.map_none
theorem Dj.{u0}:type_of% @List.nodup_cons.{u0}:= @List.nodup_cons
theorem Dk.{u0}:type_of% @List.getElem_of_mem.{u0}:= @List.getElem_of_mem
theorem Dl.{u0}:type_of% @List.getElem?_set_ne.{u0}:= @List.getElem?_set_ne
theorem Dm:type_of% @Bool.false_and:= @Bool.false_and
theorem Dn:type_of% @Int.mul_le_mul_of_nonneg_left:= @Int.mul_le_mul_of_nonneg_left
theorem Do:type_of% @Int.eq_ofNat_of_zero_le:= @Int.eq_ofNat_of_zero_le
theorem Dp.{u0,u1}:type_of% @List.map_append.{u0,u1}:= @List.map_append
theorem Dq.{u0}:type_of% @List.contains_iff_mem.{u0}:= @List.contains_iff_mem
theorem Dr.{u0}:type_of% @List.replicate_succ.{u0}:= @List.replicate_succ
theorem Ds.{u0}:type_of% @List.take_succ_cons.{u0}:= @List.take_succ_cons
theorem Dt.{u0}:type_of% @List.take_add_one.{u0}:= @List.take_add_one
theorem Du.{u0,u1}:type_of% @List.mem_flatMap.{u0,u1}:= @List.mem_flatMap
theorem Dv:type_of% @Nat.add_sub_cancel_left:= @Nat.add_sub_cancel_left
theorem Dx.{u0}:type_of% @List.mem_or_eq_of_mem_set.{u0}:= @List.mem_or_eq_of_mem_set
theorem Dy:type_of% @Bool.not_eq_true':= @Bool.not_eq_true'
theorem Ea:type_of% @List.range'_succ:= @List.range'_succ
theorem Eb:type_of% @Bool.not_eq_false':= @Bool.not_eq_false'
theorem Ec:type_of% @Int.tdiv_le_self:= @Int.tdiv_le_self
theorem Ed.{u0}:type_of% @List.length_pos_iff.{u0}:= @List.length_pos_iff
theorem Ee:type_of% @List.length_range':= @List.length_range'
theorem Ef.{u0}:type_of% @List.getElem?_set_self.{u0}:= @List.getElem?_set_self
theorem Eg.{u0,u1}:type_of% @Option.bind_eq_some_iff.{u0,u1}:= @Option.bind_eq_some_iff
theorem Eh.{u0}:type_of% @Option.isSome_iff_exists.{u0}:= @Option.isSome_iff_exists
theorem Ei:type_of% @Bool.or_eq_false_iff:= @Bool.or_eq_false_iff
theorem Ej.{u0}:type_of% @List.set_eq_take_append_cons_drop.{u0}:= @List.set_eq_take_append_cons_drop
theorem Ek.{u0}:type_of% @List.filter_cons_of_neg.{u0}:= @List.filter_cons_of_neg
theorem El.{u0}:type_of% @List.filter_cons_of_pos.{u0}:= @List.filter_cons_of_pos
theorem Em.{u0}:type_of% @Option.isNone_iff_eq_none.{u0}:= @Option.isNone_iff_eq_none
theorem En.{u0}:type_of% @List.singleton_append.{u0}:= @List.singleton_append
end Ev
end Go.Proofs.YtahbdkmimmnadaaGreatDoor
