/-
  Short names.
-/
import Derived.Tactics
namespace Go.Proofs.YtahbdkmimmnadaaGreatDoor
namespace Ev
theorem om{p:Prop}(h:p:=by omega):p:=h
theorem sm{p:Prop}(h:p:=by simp):p:=h
theorem nfn{p:Prop}(h:p:=by nofun):p:=h
theorem dc{p:Prop}(h:p:=by decide):p:=h
theorem Aa.{u0}:type_of% @List.length_nil.{u0}:= @List.length_nil
theorem Ab.{u0}:type_of% @List.getD_eq_getElem?_getD.{u0}:= @List.getD_eq_getElem?_getD
theorem Ac.{u0}:type_of% @List.length_cons.{u0}:= @List.length_cons
theorem Ad:type_of% @Nat.le_refl:= @Nat.le_refl
theorem Ae.{u0}:type_of% @List.getElem?_eq_getElem.{u0}:= @List.getElem?_eq_getElem
theorem Af:type_of% @Nat.zero_add:= @Nat.zero_add
theorem Ag.{u0,u1}:type_of% @List.map_cons.{u0,u1}:= @List.map_cons
theorem Ah.{u0}:type_of% @List.length_append.{u0}:= @List.length_append
theorem Ai.{u0}:type_of% @List.append_nil.{u0}:= @List.append_nil
theorem Aj:type_of% @Bool.false_eq_true:= @Bool.false_eq_true
theorem Ak.{u0,u1}:type_of% @List.map_nil.{u0,u1}:= @List.map_nil
theorem Al:type_of% @Int.lt_irrefl:= @Int.lt_irrefl
theorem Am.{u0}:type_of% @List.nil_append.{u0}:= @List.nil_append
theorem Ao.{u0}:type_of% @List.append_assoc.{u0}:= @List.append_assoc
theorem Ap:type_of% @Bool.and_eq_true:= @Bool.and_eq_true
theorem Aq.{u0}:type_of% @List.mem_append.{u0}:= @List.mem_append
theorem Ar.{u0}:type_of% @List.getElem?_eq_some_iff.{u0}:= @List.getElem?_eq_some_iff
theorem As.{u0}:type_of% @List.getElem?_cons_succ.{u0}:= @List.getElem?_cons_succ
theorem At.{u0}:type_of% @List.cons_append.{u0}:= @List.cons_append
theorem Au.{u0}:type_of% @List.mem_cons.{u0}:= @List.mem_cons
theorem Av:type_of% @Int.natCast_zero:= @Int.natCast_zero
theorem Aw.{u0,u1}:type_of% @List.length_map.{u0,u1}:= @List.length_map
theorem Ax.{u0,u1}:type_of% @Option.map_some.{u0,u1}:= @Option.map_some
theorem Ay.{u0}:type_of% @List.drop_zero.{u0}:= @List.drop_zero
theorem Az.{u0,u1}:type_of% @Option.map_eq_some_iff.{u0,u1}:= @Option.map_eq_some_iff
theorem Ba.{u0}:type_of% @List.length_drop.{u0}:= @List.length_drop
theorem Bb.{u0}:type_of% @List.getElem?_append_left.{u0}:= @List.getElem?_append_left
theorem Bc.{u0,u1}:type_of% @List.getElem?_map.{u0,u1}:= @List.getElem?_map
theorem Bd.{u0}:type_of% @List.getElem_mem.{u0}:= @List.getElem_mem
theorem Be.{u0}:type_of% @List.length_set.{u0}:= @List.length_set
theorem Bf:type_of% @Nat.le_trans:= @Nat.le_trans
theorem Bg.{u0}:type_of% @List.drop_drop.{u0}:= @List.drop_drop
theorem Bh.{u0}:type_of% @Option.getD_some.{u0}:= @Option.getD_some
theorem Bi.{u0}:type_of% @List.mem_cons_of_mem.{u0}:= @List.mem_cons_of_mem
theorem Bj.{u0}:type_of% @Array.getElem?_eq_some_iff.{u0}:= @Array.getElem?_eq_some_iff
theorem Bk.{u0}:type_of% @List.set_cons_succ.{u0}:= @List.set_cons_succ
theorem Bl.{u0}:type_of% @List.mem_cons_self.{u0}:= @List.mem_cons_self
theorem Bm:type_of% @Bool.and_self:= @Bool.and_self
theorem Bn:type_of% @Bool.false_and:= @Bool.false_and
theorem Bo.{u0}:type_of% @List.not_mem_nil.{u0}:= @List.not_mem_nil
theorem Bp.{u0}:type_of% @List.mem_of_getElem?.{u0}:= @List.mem_of_getElem?
theorem Bq.{u0}:type_of% @List.getElem?_append_right.{u0}:= @List.getElem?_append_right
theorem Br:type_of% @Nat.add_zero:= @Nat.add_zero
theorem Bs.{u0}:type_of% @List.all_eq_true.{u0}:= @List.all_eq_true
theorem Bt.{u0}:type_of% @List.all_cons.{u0}:= @List.all_cons
theorem Bu.{u0}:type_of% @List.length_singleton.{u0}:= @List.length_singleton
theorem Bv.{u0,u1}:type_of% @List.mem_map.{u0,u1}:= @List.mem_map
theorem Bw.{u0}:type_of% @List.length_eq_zero_iff.{u0}:= @List.length_eq_zero_iff
theorem Bx.{u0}:type_of% @List.take_of_length_le.{u0}:= @List.take_of_length_le
theorem By:type_of% @Nat.mul_one:= @Nat.mul_one
theorem Bz:type_of% @Nat.add_mul:= @Nat.add_mul
theorem Ca:type_of% @Bool.and_false:= @Bool.and_false
theorem Cb:type_of% @Nat.not_lt_zero:= @Nat.not_lt_zero
theorem Cc.{u0}:type_of% @List.mem_singleton.{u0}:= @List.mem_singleton
theorem Cd:type_of% @Int.toNat_natCast:= @Int.toNat_natCast
theorem Ce.{u0}:type_of% @List.all_nil.{u0}:= @List.all_nil
theorem Cf.{u0}:type_of% @List.length_take.{u0}:= @List.length_take
theorem Cg.{u0}:type_of% @List.drop_length.{u0}:= @List.drop_length
theorem Ch.{u0}:type_of% @List.getElem?_cons_zero.{u0}:= @List.getElem?_cons_zero
theorem Ci.{u0}:type_of% @List.set_cons_zero.{u0}:= @List.set_cons_zero
theorem Cj.{u0}:type_of% @List.getElem?_eq_none.{u0}:= @List.getElem?_eq_none
theorem Ck:type_of% @Nat.zero_le:= @Nat.zero_le
theorem Cl:type_of% @Nat.sub_self:= @Nat.sub_self
theorem Cm:type_of% @Int.mul_nonneg:= @Int.mul_nonneg
theorem Cn.{u0}:type_of% @List.ext_getElem?.{u0}:= @List.ext_getElem?
theorem Co.{u0}:type_of% @List.getElem?_set.{u0}:= @List.getElem?_set
theorem Cp:type_of% @Int.toNat_zero:= @Int.toNat_zero
theorem Cq:type_of% @Int.mul_le_mul_of_nonneg_right:= @Int.mul_le_mul_of_nonneg_right
theorem Cr:type_of% @Nat.lt_or_ge:= @Nat.lt_or_ge
theorem Cs.{u0}:type_of% @List.head?_drop.{u0}:= @List.head?_drop
theorem Ct.{u0,u1}:type_of% @List.foldl_cons.{u0,u1}:= @List.foldl_cons
theorem Cu:type_of% @Bool.true_and:= @Bool.true_and
theorem Cv.{u0}:type_of% @List.take_length.{u0}:= @List.take_length
theorem Cw:type_of% @List.mem_range'_1:= @List.mem_range'_1
theorem Cx.{u0}:type_of% @List.getElem?_take.{u0}:= @List.getElem?_take
theorem Cy:type_of% @Int.le_trans:= @Int.le_trans
theorem Cz:type_of% @Int.tdiv_nonneg:= @Int.tdiv_nonneg
theorem Da:type_of% @Nat.lt_of_lt_of_le:= @Nat.lt_of_lt_of_le
theorem Db:type_of% @Int.eq_ofNat_of_zero_le:= @Int.eq_ofNat_of_zero_le
theorem Dc:type_of% @Nat.eq_zero_or_pos:= @Nat.eq_zero_or_pos
theorem Dd.{u0}:type_of% @List.mem_or_eq_of_mem_set.{u0}:= @List.mem_or_eq_of_mem_set
theorem De.{u0,u1}:type_of% @Option.bind_some.{u0,u1}:= @Option.bind_some
theorem Df.{u0}:type_of% @List.getElem?_set_ne.{u0}:= @List.getElem?_set_ne
theorem Dg:type_of% @Bool.not_true:= @Bool.not_true
theorem Dh.{u0}:type_of% @List.drop_succ_cons.{u0}:= @List.drop_succ_cons
theorem Di.{u0,u1}:type_of% @Option.map_none.{u0,u1}:= @Option.map_none
theorem Dj.{u0}:type_of% @List.getElem_of_mem.{u0}:= @List.getElem_of_mem
theorem Dk.{u0,u1}:type_of% @List.map_append.{u0,u1}:= @List.map_append
theorem Dl.{u0}:type_of% @List.mem_filter.{u0}:= @List.mem_filter
theorem Dm.{u0,u1}:type_of% @List.head?_map.{u0,u1}:= @List.head?_map
theorem Dn.{u0}:type_of% @List.mem_reverse.{u0}:= @List.mem_reverse
theorem Do:type_of% @Int.mul_le_mul_of_nonneg_left:= @Int.mul_le_mul_of_nonneg_left
theorem Dp.{u0}:type_of% @List.contains_iff_mem.{u0}:= @List.contains_iff_mem
theorem Dq:type_of% @List.range'_succ:= @List.range'_succ
theorem Dr.{u0}:type_of% @List.replicate_succ.{u0}:= @List.replicate_succ
theorem Ds.{u0}:type_of% @List.take_succ_cons.{u0}:= @List.take_succ_cons
theorem Dt.{u0}:type_of% @List.take_add_one.{u0}:= @List.take_add_one
theorem Du.{u0,u1}:type_of% @List.mem_flatMap.{u0,u1}:= @List.mem_flatMap
theorem Dv:type_of% @Nat.add_sub_cancel_left:= @Nat.add_sub_cancel_left
theorem Dx:type_of% @List.length_range':= @List.length_range'
theorem Dy:type_of% @Nat.lt_trichotomy:= @Nat.lt_trichotomy
theorem Ea:type_of% @Bool.not_eq_false':= @Bool.not_eq_false'
theorem Eb.{u0}:type_of% @List.length_pos_iff.{u0}:= @List.length_pos_iff
theorem Ec:type_of% @Int.tdiv_le_self:= @Int.tdiv_le_self
theorem Ed.{u0}:type_of% @List.getElem?_set_self.{u0}:= @List.getElem?_set_self
theorem Ee.{u0}:type_of% @Array.getElem?_setIfInBounds.{u0}:= @Array.getElem?_setIfInBounds
theorem Ef.{u0,u1}:type_of% @Option.bind_eq_some_iff.{u0,u1}:= @Option.bind_eq_some_iff
theorem Eg.{u0}:type_of% @Option.isSome_iff_exists.{u0}:= @Option.isSome_iff_exists
theorem Eh.{u0}:type_of% @Array.length_toList.{u0}:= @Array.length_toList
theorem Ei:type_of% @Bool.or_eq_false_iff:= @Bool.or_eq_false_iff
theorem Ej.{u0}:type_of% @List.set_eq_take_append_cons_drop.{u0}:= @List.set_eq_take_append_cons_drop
theorem Ek.{u0}:type_of% @List.singleton_append.{u0}:= @List.singleton_append
theorem El.{u0}:type_of% @List.filter_cons_of_neg.{u0}:= @List.filter_cons_of_neg
theorem Em.{u0}:type_of% @List.filter_cons_of_pos.{u0}:= @List.filter_cons_of_pos
end Ev
end Go.Proofs.YtahbdkmimmnadaaGreatDoor
