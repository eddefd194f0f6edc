/-
  Short names.
-/
import Derived.Tactics
namespace Go.Proofs.YthlkcebdfbjdoaaGreat
namespace Ev
theorem om{p:Prop}(h:p:=by omega):p:=h
theorem sm{p:Prop}(h:p:=by simp):p:=h
theorem nfn{p:Prop}(h:p:=by nofun):p:=h
theorem dc{p:Prop}(h:p:=by decide):p:=h
theorem Aa.{u0}:type_of% @List.getD_eq_getElem?_getD.{u0}:= @List.getD_eq_getElem?_getD
theorem Ab:type_of% @Nat.le_refl:= @Nat.le_refl
theorem Ac.{u0}:type_of% @List.length_nil.{u0}:= @List.length_nil
theorem Ad.{u0}:type_of% @List.length_cons.{u0}:= @List.length_cons
theorem Ae.{u0}:type_of% @List.getElem?_eq_getElem.{u0}:= @List.getElem?_eq_getElem
theorem Af.{u0}:type_of% @List.length_append.{u0}:= @List.length_append
theorem Ag:type_of% @Nat.zero_add:= @Nat.zero_add
theorem Ah:type_of% @Int.lt_irrefl:= @Int.lt_irrefl
theorem Ai.{u0,u1}:type_of% @List.map_cons.{u0,u1}:= @List.map_cons
theorem Aj.{u0}:type_of% @List.append_nil.{u0}:= @List.append_nil
theorem Ak:type_of% @Bool.false_eq_true:= @Bool.false_eq_true
theorem Al.{u0}:type_of% @List.append_assoc.{u0}:= @List.append_assoc
theorem Am.{u0}:type_of% @List.mem_append.{u0}:= @List.mem_append
theorem Ao.{u0}:type_of% @List.nil_append.{u0}:= @List.nil_append
theorem Ap:type_of% @Int.natCast_zero:= @Int.natCast_zero
theorem Aq.{u0,u1}:type_of% @List.map_nil.{u0,u1}:= @List.map_nil
theorem Ar:type_of% @Bool.and_eq_true:= @Bool.and_eq_true
theorem As.{u0,u1}:type_of% @List.length_map.{u0,u1}:= @List.length_map
theorem At.{u0}:type_of% @List.getElem_mem.{u0}:= @List.getElem_mem
theorem Au.{u0}:type_of% @List.getElem?_eq_some_iff.{u0}:= @List.getElem?_eq_some_iff
theorem Av.{u0}:type_of% @List.mem_cons.{u0}:= @List.mem_cons
theorem Aw.{u0}:type_of% @List.getElem?_cons_succ.{u0}:= @List.getElem?_cons_succ
theorem Ax.{u0}:type_of% @List.cons_append.{u0}:= @List.cons_append
theorem Ay.{u0,u1}:type_of% @Option.map_eq_some_iff.{u0,u1}:= @Option.map_eq_some_iff
theorem Az.{u0,u1}:type_of% @Option.map_some.{u0,u1}:= @Option.map_some
theorem Ba.{u0}:type_of% @List.drop_zero.{u0}:= @List.drop_zero
theorem Bb.{u0}:type_of% @Option.getD_some.{u0}:= @Option.getD_some
theorem Bc.{u0}:type_of% @List.getElem?_append_left.{u0}:= @List.getElem?_append_left
theorem Bd.{u0,u1}:type_of% @List.getElem?_map.{u0,u1}:= @List.getElem?_map
theorem Be.{u0,u1}:type_of% @List.mem_map.{u0,u1}:= @List.mem_map
theorem Bf.{u0}:type_of% @List.mem_cons_of_mem.{u0}:= @List.mem_cons_of_mem
theorem Bg.{u0}:type_of% @List.all_eq_true.{u0}:= @List.all_eq_true
theorem Bh:type_of% @Nat.sub_self:= @Nat.sub_self
theorem Bi.{u0}:type_of% @List.mem_cons_self.{u0}:= @List.mem_cons_self
theorem Bj.{u0}:type_of% @Array.getElem?_eq_some_iff.{u0}:= @Array.getElem?_eq_some_iff
theorem Bk.{u0}:type_of% @List.getElem?_append_right.{u0}:= @List.getElem?_append_right
theorem Bl.{u0}:type_of% @List.mem_of_getElem?.{u0}:= @List.mem_of_getElem?
theorem Bn.{u0}:type_of% @List.length_set.{u0}:= @List.length_set
theorem Bo.{u0}:type_of% @List.set_cons_succ.{u0}:= @List.set_cons_succ
theorem Bp.{u0}:type_of% @List.not_mem_nil.{u0}:= @List.not_mem_nil
theorem Bq.{u0}:type_of% @List.mem_singleton.{u0}:= @List.mem_singleton
theorem Br.{u0}:type_of% @List.length_eq_zero_iff.{u0}:= @List.length_eq_zero_iff
theorem Bs.{u0}:type_of% @List.length_take.{u0}:= @List.length_take
theorem Bt.{u0}:type_of% @List.all_cons.{u0}:= @List.all_cons
theorem Bu:type_of% @Nat.add_zero:= @Nat.add_zero
theorem Bv:type_of% @Bool.and_self:= @Bool.and_self
theorem Bw.{u0}:type_of% @List.drop_length.{u0}:= @List.drop_length
theorem Bx:type_of% @Int.toNat_of_nonneg:= @Int.toNat_of_nonneg
theorem By:type_of% @Nat.le_trans:= @Nat.le_trans
theorem Bz:type_of% @Nat.not_lt_zero:= @Nat.not_lt_zero
theorem Ca.{u0}:type_of% @List.getElem_of_mem.{u0}:= @List.getElem_of_mem
theorem Cb:type_of% @Nat.add_mul:= @Nat.add_mul
theorem Cc.{u0}:type_of% @List.all_nil.{u0}:= @List.all_nil
theorem Cd.{u0}:type_of% @List.take_of_length_le.{u0}:= @List.take_of_length_le
theorem Ce:type_of% @Nat.mul_one:= @Nat.mul_one
theorem Cf.{u0}:type_of% @List.length_drop.{u0}:= @List.length_drop
theorem Cg:type_of% @Int.natCast_mul:= @Int.natCast_mul
theorem Ch:type_of% @List.mem_range:= @List.mem_range
theorem Ci.{u0}:type_of% @List.set_cons_zero.{u0}:= @List.set_cons_zero
theorem Cj.{u0}:type_of% @List.getElem?_set.{u0}:= @List.getElem?_set
theorem Ck.{u0}:type_of% @List.drop_drop.{u0}:= @List.drop_drop
theorem Cl.{u0}:type_of% @List.getElem?_eq_none.{u0}:= @List.getElem?_eq_none
theorem Cm.{u0}:type_of% @List.ext_getElem?.{u0}:= @List.ext_getElem?
theorem Cn:type_of% @Int.toNat_natCast:= @Int.toNat_natCast
theorem Co.{u0}:type_of% @List.getElem?_cons_zero.{u0}:= @List.getElem?_cons_zero
theorem Cp:type_of% @Nat.lt_or_ge:= @Nat.lt_or_ge
theorem Cq.{u0}:type_of% @Option.isSome_none.{u0}:= @Option.isSome_none
theorem Cr:type_of% @List.mem_range'_1:= @List.mem_range'_1
theorem Cs.{u0}:type_of% @List.length_singleton.{u0}:= @List.length_singleton
theorem Ct.{u0,u1}:type_of% @List.map_append.{u0,u1}:= @List.map_append
theorem Cu:type_of% @Bool.false_and:= @Bool.false_and
theorem Cv:type_of% @Int.toNat_zero:= @Int.toNat_zero
theorem Cw.{u0}:type_of% @List.getElem?_take.{u0}:= @List.getElem?_take
theorem Cx.{u0,u1}:type_of% @Option.map_none.{u0,u1}:= @Option.map_none
theorem Cy.{u0}:type_of% @List.take_length.{u0}:= @List.take_length
theorem Cz.{u0}:type_of% @List.head?_drop.{u0}:= @List.head?_drop
theorem Da:type_of% @Nat.eq_zero_or_pos:= @Nat.eq_zero_or_pos
theorem Db.{u0,u1}:type_of% @Option.bind_some.{u0,u1}:= @Option.bind_some
theorem Dc:type_of% @Nat.lt_trichotomy:= @Nat.lt_trichotomy
theorem Dd:type_of% @Nat.lt_of_lt_of_le:= @Nat.lt_of_lt_of_le
theorem De.{u0,u1}:type_of% @List.foldl_cons.{u0,u1}:= @List.foldl_cons
theorem Df.{u0}:type_of% @Option.isSome_some.{u0}:= @Option.isSome_some
theorem Dg.{u0}:type_of% @List.getElem?_set_ne.{u0}:= @List.getElem?_set_ne
theorem Dh:type_of% @Bool.not_eq_true':= @Bool.not_eq_true'
theorem Di:type_of% @Bool.and_false:= @Bool.and_false
theorem Dj.{u0}:type_of% @List.drop_succ_cons.{u0}:= @List.drop_succ_cons
theorem Dk.{u0}:type_of% @List.drop_eq_getElem_cons.{u0}:= @List.drop_eq_getElem_cons
theorem Dl:type_of% @List.length_range:= @List.length_range
theorem Dm.{u0}:type_of% @List.nodup_cons.{u0}:= @List.nodup_cons
theorem Dn:type_of% @Int.eq_ofNat_of_zero_le:= @Int.eq_ofNat_of_zero_le
theorem Do.{u0}:type_of% @List.mem_or_eq_of_mem_set.{u0}:= @List.mem_or_eq_of_mem_set
theorem Dp.{u0}:type_of% @List.contains_iff_mem.{u0}:= @List.contains_iff_mem
theorem Dq.{u0}:type_of% @List.nodup_append.{u0}:= @List.nodup_append
theorem Dr:type_of% @List.range'_succ:= @List.range'_succ
theorem Ds.{u0}:type_of% @List.take_add_one.{u0}:= @List.take_add_one
theorem Dt.{u0}:type_of% @List.set_append_right.{u0}:= @List.set_append_right
theorem Du:type_of% @Nat.add_sub_cancel_left:= @Nat.add_sub_cancel_left
theorem Dv:type_of% @List.length_range':= @List.length_range'
theorem Dx.{u0,u1}:type_of% @List.getElem_map.{u0,u1}:= @List.getElem_map
theorem Dy.{u0,u1}:type_of% @List.mem_flatMap.{u0,u1}:= @List.mem_flatMap
theorem Ea.{u0,u1}:type_of% @List.map_congr_left.{u0,u1}:= @List.map_congr_left
theorem Eb.{u0}:type_of% @List.countP_cons.{u0}:= @List.countP_cons
theorem Ec.{u0}:type_of% @List.singleton_append.{u0}:= @List.singleton_append
theorem Ed.{u0}:type_of% @List.length_pos_iff.{u0}:= @List.length_pos_iff
theorem Ee:type_of% @Int.mul_le_mul_of_nonneg_right:= @Int.mul_le_mul_of_nonneg_right
theorem Ef:type_of% @Classical.byContradiction:= @Classical.byContradiction
theorem Eg.{u0}:type_of% @List.getElem?_set_self.{u0}:= @List.getElem?_set_self
theorem Eh.{u0}:type_of% @Array.getElem?_modify.{u0}:= @Array.getElem?_modify
theorem Ei.{u0,u1}:type_of% @Option.bind_eq_some_iff.{u0,u1}:= @Option.bind_eq_some_iff
theorem Ej.{u0}:type_of% @Option.isSome_iff_exists.{u0}:= @Option.isSome_iff_exists
theorem Ek.{u0}:type_of% @List.idxOf_lt_length_of_mem.{u0}:= @List.idxOf_lt_length_of_mem
theorem El.{u0}:type_of% @List.length_pos_of_mem.{u0}:= @List.length_pos_of_mem
theorem Em.{u0}:type_of% @List.getElem_append_left.{u0}:= @List.getElem_append_left
theorem En.{u0}:type_of% @Array.getElem?_append_left.{u0}:= @Array.getElem?_append_left
theorem Eo:type_of% @Int.tdiv_eq_ediv_of_nonneg:= @Int.tdiv_eq_ediv_of_nonneg
theorem Ep:type_of% @Int.tmod_eq_emod_of_nonneg:= @Int.tmod_eq_emod_of_nonneg
end Ev
end Go.Proofs.YthlkcebdfbjdoaaGreat
