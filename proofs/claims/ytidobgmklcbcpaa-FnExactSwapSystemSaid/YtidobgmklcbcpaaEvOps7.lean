/-
  One operation of a region, calls among them.
-/
import Derived.Test.YtidobgmklcbcpaaEvOps6
namespace Go.Proofs.Ytidobgmklcbcpaa
namespace Ev

/-- What is asked of whoever answers calls: he is right. -/
def CallOK (P : Program) (call : CallF) : Prop := ∀ (f : FuncId) (args : List A) (h : H) (x : A) (h' : H), call f args h = some (x, h') →
  (∃ fn, P.funcs[f]? = some fn ∧ fn.body.isNone = false ∧ (fn.name == "runtime.NumGoroutine") = false) ∧
  ∀ (ρ : Rho) (w : World) (I : Nat → Prop) (vs : List Value), Rel h ρ w I → ARv h ρ w I args vs →
    Calls P f vs.toArray w fun e w' => ∃ v ρ' I', e = .returned v ∧ Step h ρ w I h' ρ' w' I' ∧ AR h' ρ' w' I' x v

/-- What is asked of the environment. -/
structure EnvOK (E : Env) : Prop where
  eqs : EqsOK E.P E.eqs
  mixed : E.P.follows .mixedOrders = true

section
variable {E : Env} {call : CallF} {h : H} {ρ : Rho} {w : World} {I : Nat → Prop}

theorem plain_ar {x : A} {v : Value} (hp : plainA x = true) {h' : H} {ρ' : Rho} {w' : World} {I' : Nat → Prop} {h2 : H} {ρ2 : Rho} {w2 : World} {I2 : Nat → Prop} (ha : AR h' ρ' w' I' x v) : AR h2 ρ2 w2 I2 x v := by
  have scal : ∀ (x : D) (v : Value), (match x with | .int _ _ | .bool _ | .str _ => true | _ => false) = true → DR w' I' x v → DR w2 I2 x v := by
    intro x v hx hd
    cases x <;> first | (simp at hx; done) | (simp only [DR] at hd ⊢; exact hd)
  cases x with
  | d y => simp only [AR] at ha ⊢; exact scal y v (by cases y <;> first | rfl | simp [plainA] at hp) ha
  | tup vs =>
    simp only [AR] at ha ⊢
    obtain ⟨C, rfl, hc⟩ := ha
    refine ⟨C, rfl, ?_⟩
    simp only [plainA] at hp
    rw [ARv_iff] at hc ⊢
    refine ⟨hc.1, fun k a hk => ?_⟩
    obtain ⟨u, hu, hau⟩ := hc.2 k a hk
    refine ⟨u, hu, ?_⟩
    have := List.all_eq_true.1 hp a (List.mem_of_getElem? hk)
    cases a with
    | d y => simp only [AR] at hau ⊢; exact scal y u (by cases y <;> first | rfl | simp at this) hau
    | _ => simp at this
  | _ => simp [plainA] at hp

theorem rel_empty {ρ0 : Rho} (hi : ∀ b, I b → b < w.heap.size) : Rel [] ρ0 w I :=
  ⟨fun id o ho => by simp at ho, fun id id' b o o' _ _ ho => by simp at ho, hi⟩

theorem owned_empty {ρ0 : Rho} {b : Nat} : ¬ owned [] ρ0 b := fun ⟨_, _, _, ho, _⟩ => by simp at ho

theorem grew_empty {ρ0 : Rho} {I0 : Nat → Prop} {h' : H} {ρ' : Rho} {w' : World} {I' : Nat → Prop} (s : Step [] ρ0 w I0 h' ρ' w' I') : Grew w w' :=
  ⟨s.keep.os, s.keep.tape, s.keep.output, s.keep.size, fun b hb => s.keep.same b hb owned_empty, s.keep.drawn⟩

theorem ar_empty {ρ0 : Rho} {x : A} {v : Value} (ha : AR [] ρ0 w I x v) (h' : H) (ρ' : Rho) : AR h' ρ' w I x v :=
  AR_ext ⟨imm_refl w I, fun _ _ _ _ _ _ hs => by simp [slOK] at hs, fun _ _ _ hs => by simp [ptOK] at hs⟩ x v ha

/-- The call, as the machine enters it. -/
theorem run_callFunc {P : Program} {f : FuncId} {args : Array Value} {fn : Func} (h1 : P.funcs[f]? = some fn) (h2 : fn.body.isNone = false) (h3 : (fn.name == "runtime.NumGoroutine") = false) : (callFunc f args).run P w = .ok (.enter f args) w := by
  unfold callFunc
  simp only [Sem.run_bind, run_program, Result.andThen_ok, h1, h2, h3, Bool.false_eq_true, if_false]
  rfl

/-! ### a lent call's new memory -/

theorem clean_dr {w : World} {I I' : Nat → Prop} {d : D} {v : Value} (hd : cleanD d = true) (h : DR w I d v) : DR w I' d v := by
  cases d with
  | ivs n cs =>
    cases cs with
    | nil =>
      simp only [DR] at h ⊢
      obtain ⟨a, cap, h1, h2, _⟩ := h
      exact ⟨a, cap, h1, h2, .inl trivial⟩
    | cons c cs => simp [cleanD] at hd
  | iptr cs => simp [cleanD] at hd
  | fn f caps => simp [cleanD] at hd
  | ifc t x => simp [cleanD] at hd
  | _ => simpa only [DR] using h

theorem clean_drs {w : World} {I I' : Nat → Prop} {cs : List D} {b o : Nat} (hd : cs.all cleanD = true) (h : DRs w I cs b o) : DRs w I' cs b o := by
  rw [DRs_iff] at h ⊢
  intro k d hk
  obtain ⟨v, h1, h2, h3⟩ := h k d hk
  exact ⟨v, h1, clean_dr (List.all_eq_true.1 hd d (List.mem_of_getElem? hk)) h2, h3⟩

section rebase
variable {h : H} {ρ : Rho} {w : World} {I I' : Nat → Prop}

theorem sl_noice (hn : h.all cleanO = true) {id gen off len : Nat} {a : Option Addr} {cap : Nat} (hs : slOK h ρ w I id gen off len a cap) : slOK h ρ w I' id gen off len a cap := by
  unfold slOK at hs ⊢
  cases hid : h[id]? with
  | none => rw [hid] at hs; exact hs
  | some o =>
    rw [hid] at hs
    cases o with
    | ice cs e g => have := List.all_eq_true.1 hn _ (List.mem_of_getElem? hid); simp [cleanO] at this
    | _ => exact hs

theorem pt_noice (hn : h.all cleanO = true) {id gen b : Nat} (hs : ptOK h ρ w I id gen b) : ptOK h ρ w I' id gen b := by
  unfold ptOK at hs ⊢
  cases hid : h[id]? with
  | none => rw [hid] at hs; exact hs
  | some o =>
    rw [hid] at hs
    cases o with
    | ice cs e g => have := List.all_eq_true.1 hn _ (List.mem_of_getElem? hid); simp [cleanO] at this
    | _ => exact hs

mutual
theorem clean_ar (hn : h.all cleanO = true) : ∀ (a : A) (v : Value), cleanA a = true → AR h ρ w I a v → AR h ρ w I' a v
  | .d x, v, hc, hh => by simp only [cleanA] at hc; simp only [AR] at hh ⊢; exact clean_dr hc hh
  | .sl id gen off len, v, _, hh => by
    simp only [AR] at hh ⊢
    obtain ⟨a, cap, hv, ho⟩ := hh
    exact ⟨a, cap, hv, sl_noice hn ho⟩
  | .ptr id gen off, v, _, hh => by
    simp only [AR] at hh ⊢
    obtain ⟨b, hv, ho⟩ := hh
    exact ⟨b, hv, pt_noice hn ho⟩
  | .clo f caps, v, hc, hh => by
    simp only [cleanA] at hc
    simp only [AR] at hh ⊢
    obtain ⟨cv, hv, ho⟩ := hh
    exact ⟨cv, hv, clean_arv hn caps _ hc ho⟩
  | .agg cs, v, hc, hh => by
    simp only [cleanA] at hc
    simp only [AR] at hh ⊢
    obtain ⟨cv, hv, ho⟩ := hh
    exact ⟨cv, hv, clean_arv hn cs _ hc ho⟩
  | .tup cs, v, hc, hh => by
    simp only [cleanA] at hc
    simp only [AR] at hh ⊢
    obtain ⟨cv, hv, ho⟩ := hh
    exact ⟨cv, hv, clean_arv hn cs _ hc ho⟩
  | .junk, v, _, _ => by simp only [AR]
theorem clean_arv (hn : h.all cleanO = true) : ∀ (as : List A) (vs : List Value), cleanAs as = true → ARv h ρ w I as vs → ARv h ρ w I' as vs
  | [], vs, _, hh => by simpa only [ARv] using hh
  | a :: as, vs, hc, hh => by
    simp only [cleanAs, Bool.and_eq_true] at hc
    simp only [ARv] at hh ⊢
    obtain ⟨v, rest, hv, ha, hr⟩ := hh
    exact ⟨v, rest, hv, clean_ar hn a v hc.1 ha, clean_arv hn as rest hc.2 hr⟩
end

theorem cleanAs_get : ∀ {cs : List A} {k : Nat} {c : A}, cleanAs cs = true → cs[k]? = some c → cleanA c = true
  | [], k, c, _, hk => by simp at hk
  | a :: as, 0, c, hc, hk => by
    simp only [cleanAs, Bool.and_eq_true] at hc
    simp at hk; subst hk; exact hc.1
  | a :: as, k + 1, c, hc, hk => by
    simp only [cleanAs, Bool.and_eq_true] at hc
    exact cleanAs_get hc.2 (by simpa using hk)

theorem or_rebase (hn : h.all cleanO = true) (hI : ∀ b, I' b → I b) {id : Nat} {o : O} (hid : h[id]? = some o) (ho : OR h ρ w I id o) : OR h ρ w I' id o := by
  have hc := List.all_eq_true.1 hn _ (List.mem_of_getElem? hid)
  cases o with
  | arr cs e g =>
    simp only [cleanO] at hc
    simp only [OR] at ho ⊢
    cases hρ : ρ id with
    | none => rw [hρ] at ho; exact ho
    | some b =>
      rw [hρ] at ho
      obtain ⟨h1, h2, C, E, fz, h3, h4, h5⟩ := ho
      exact ⟨h1, fun hb => h2 (hI b hb), C, E, fz, h3, h4, clean_drs hc h5⟩
  | box cs =>
    simp only [cleanO] at hc
    simp only [OR] at ho ⊢
    obtain ⟨b, hρ, h2, C, E, fz, h3, h4, h5⟩ := ho
    refine ⟨b, hρ, fun hb => h2 (hI b hb), C, E, fz, h3, h4, fun m c hm => ?_⟩
    obtain ⟨v, hv, ha, hk⟩ := h5 m c hm
    exact ⟨v, hv, clean_ar hn c v (cleanAs_get hc hm) ha, hk⟩
  | vec cs e g =>
    simp only [cleanO] at hc
    simp only [OR] at ho ⊢
    cases hρ : ρ id with
    | none => rw [hρ] at ho; exact ho
    | some b =>
      rw [hρ] at ho
      obtain ⟨h1, h2, C, E, fz, h3, h4, h5⟩ := ho
      refine ⟨h1, fun hb => h2 (hI b hb), C, E, fz, h3, h4, fun m c hm => ?_⟩
      obtain ⟨v, hv, ha, hk⟩ := h5 m c hm
      exact ⟨v, hv, clean_ar hn c v (cleanAs_get hc hm) ha, hk⟩
  | ice cs e g => simp only [OR]
  | void => simp only [OR]
end rebase

/-- What a call laid while its arguments were frozen stays good when they are thawed. -/
theorem step_rebase {w w' : World} {I I1 I2 : Nat → Prop} {ρ0 ρ2 : Rho} {h2 : H} (s : Step [] ρ0 w I1 h2 ρ2 w' I2) (hI : ∀ b, I b → I1 b) (hlt : ∀ b, I b → b < w.heap.size) (hn : h2.all cleanO = true) : Step [] ρ0 w I h2 ρ2 w' I := by
  have up : ∀ b, I b → I2 b := fun b hb => (s.ext.imm b (hI b hb)).1
  refine ⟨⟨fun id o hid => or_rebase hn up hid (s.rel.obj id o hid), s.rel.inj, fun b hb => Nat.lt_of_lt_of_le (hlt b hb) s.keep.size⟩, ⟨fun b hb => ⟨hb, (s.ext.imm b (hI b hb)).2⟩, fun _ _ _ _ _ _ hs => by simp [slOK] at hs, fun _ _ _ hs => by simp [ptOK] at hs⟩, ⟨s.keep.os, s.keep.tape, s.keep.output, s.keep.size, s.keep.same, fun b hb => .inl hb, s.keep.drawn⟩, s.own, s.len⟩

theorem aCall_ok (hc : CallOK E.P call) {f : FuncId} {args : List A} {x : A} {h' : H} (he : aCall call E.hint h f args = some (x, h')) :
    (∃ fn, E.P.funcs[f]? = some fn ∧ fn.body.isNone = false ∧ (fn.name == "runtime.NumGoroutine") = false) ∧
    ∀ (ρ : Rho) (w : World) (I : Nat → Prop) (vs : List Value), Rel h ρ w I → ARv h ρ w I args vs →
      Calls E.P f vs.toArray w fun e w' => ∃ v ρ' I', e = .returned v ∧ Step h ρ w I h' ρ' w' I' ∧ AR h' ρ' w' I' x v := by
  unfold aCall at he
  split at he
  · exact hc f args h x h' he
  · split at he
    · rename_i as h1 hfr
      split at he
      · rename_i r0 hcall
        split at he
        · rename_i hp
          cases he
          obtain ⟨hf, hrun⟩ := hc f as [] x [] hcall
          refine ⟨hf, fun ρ w I vs r ha => ?_⟩
          obtain ⟨I1, s1, d1⟩ := frzAs_ok args h as h1 hfr ρ w I vs r ha
          refine (hrun (fun _ => none) w I1 vs (rel_empty s1.rel.imm) (d1.ar _ _)).mono ?_
          rintro e w' ⟨v, ρ', I', rfl, s2, hx⟩
          exact ⟨v, ρ, I, rfl, step_grew r (grew_empty s2), plain_ar hp hx⟩
        · cases he
      · cases he
    · cases he
  · split at he
    · rename_i as h1 hfr
      split at he
      · rename_i r0 h2 hcall
        split at he
        · rename_i hp
          cases he
          simp only [Bool.and_eq_true] at hp
          obtain ⟨hf, hrun⟩ := hc f as [] r0 h2 hcall
          refine ⟨hf, fun ρ w I vs r ha => ?_⟩
          obtain ⟨I1, s1, d1⟩ := frzAs_ok args h as h1 hfr ρ w I vs r ha
          refine (hrun (sub [] ρ) w I1 vs (rel_empty s1.rel.imm) (d1.ar _ _)).mono ?_
          rintro e w' ⟨v, ρ', I', rfl, s2, hx⟩
          have s2' := step_rebase (I := I) s2 (fun b hb => (s1.ext.imm b hb).1) r.imm hp.2
          obtain ⟨s3, hren⟩ := step_frame (ord := []) r (by simp) (by simp) (Nat.zero_le _) (show Step (pack h []) (sub [] ρ) w I h2 ρ' w' I from s2')
          simp only [putBack] at s3 hren
          exact ⟨v, _, I, rfl, s3, AR_ren (imm_refl _ _) hren r0 v (clean_ar hp.2 r0 v hp.1 hx)⟩
        · cases he
      · cases he
    · cases he
  · split at he
    · rename_i as h1 hfr
      split at he
      · rename_i r0 hcall
        cases he
        obtain ⟨hf, hrun⟩ := hc f as [] x [] hcall
        refine ⟨hf, fun ρ w I vs r ha => ?_⟩
        obtain ⟨I1, s1, d1⟩ := frzAs_ok args h as h' hfr ρ w I vs r ha
        refine (hrun (sub [] ρ) w I1 vs (rel_empty s1.rel.imm) (d1.ar _ _)).mono ?_
        rintro e w' ⟨v, ρ', I', rfl, s2, hx⟩
        obtain ⟨s3, _⟩ := step_frame (ord := []) s1.rel (by simp) (by simp) (Nat.zero_le _) (show Step (pack h' []) (sub [] ρ) w I1 [] ρ' w' I' from s2)
        have e1 : putBack (back [] (List.length h') (List.length ([] : H))) h' [] [] = h' := by simp [putBack]
        rw [e1] at s3
        exact ⟨v, _, I', rfl, s1.trans s3, ar_empty hx _ _⟩
      · rename_i r0 h2 _ hcall
        cases he
        obtain ⟨hf, hrun⟩ := hc f as [] r0 h2 hcall
        refine ⟨hf, fun ρ w I vs r ha => ?_⟩
        obtain ⟨I1, s1, d1⟩ := frzAs_ok args h as h1 hfr ρ w I vs r ha
        refine (hrun (sub [] ρ) w I1 vs (rel_empty s1.rel.imm) (d1.ar _ _)).mono ?_
        rintro e w' ⟨v, ρ', I', rfl, s2, hx⟩
        obtain ⟨s3, hren⟩ := step_frame (ord := []) s1.rel (by simp) (by simp) (Nat.zero_le _) (show Step (pack h1 []) (sub [] ρ) w I1 h2 ρ' w' I' from s2)
        simp only [putBack] at s3 hren
        exact ⟨v, _, I', rfl, s1.trans s3, AR_ren (imm_refl _ _) hren r0 v hx⟩
      · cases he
    · cases he

theorem aCallee_ok (hc : CallOK E.P call) {c : A} {args : List A} {x : A} {h' : H} (he : aCallee call E.hint h c args = some (x, h')) {cv : Value} {vs : List Value} (r : Rel h ρ w I) (hcv : AR h ρ w I c cv) (ha : ARv h ρ w I args vs) :
    ∃ f as, (do let d ← Deferred.ofValue cv vs.toArray; invoke d.target d.args : Sem Next).run E.P w = .ok (.enter f as) w ∧
      Calls E.P f as w fun e w' => ∃ v ρ' I', e = .returned v ∧ Step h ρ w I h' ρ' w' I' ∧ AR h' ρ' w' I' x v := by
  have key : ∀ (f : FuncId) (caps : List A) (cap : Array Value), aCall call E.hint h f (args ++ caps) = some (x, h') → ARv h ρ w I caps cap.toList → cv = .func (.func f) #[] cap →
      ∃ f as, (do let d ← Deferred.ofValue cv vs.toArray; invoke d.target d.args : Sem Next).run E.P w = .ok (.enter f as) w ∧
        Calls E.P f as w fun e w' => ∃ v ρ' I', e = .returned v ∧ Step h ρ w I h' ρ' w' I' ∧ AR h' ρ' w' I' x v := by
    intro f caps cap he hcap hcv
    subst hcv
    obtain ⟨⟨fn, h1, h2, h3⟩, hrun⟩ := aCall_ok hc he
    refine ⟨f, (vs ++ cap.toList).toArray, ?_, hrun ρ w I _ r (ARv_append ha hcap)⟩
    have := run_callFunc (w := w) (args := (vs ++ cap.toList).toArray) h1 h2 h3
    simp only [Deferred.ofValue, Sem.run_bind, Sem.run_pure, Result.andThen_ok, invoke]
    have e : #[] ++ vs.toArray ++ cap = (vs ++ cap.toList).toArray := by simp
    rw [e]; exact this
  unfold aCallee at he
  split at he
  · simp only [AR] at hcv
    obtain ⟨cap, rfl, hcap⟩ := hcv
    exact key _ _ cap he hcap rfl
  · simp only [AR, DR] at hcv
    obtain ⟨cap, rfl, hcap⟩ := hcv
    exact key _ _ cap he ((ARv_map_d _ _).2 hcap) rfl
  · cases he

/-! ### one operation -/

/-- What an operation leaves. -/
def Leaves (E : Env) (h : H) (ρ : Rho) (w : World) (I : Nat → Prop) (o : Oper) (act : Act) (x : A) (h' : H) : Prop :=
  ∀ (K : Act → World → Prop) (Q : Exit → Act → World → Prop), (∀ v ρ' w' I', Step h ρ w I h' ρ' w' I' → AR h' ρ' w' I' x v → K (act.put o.dst v) w') → o.wp E.P act w K Q

theorem leaves_value {o : Oper} {act : Act} {x : A} {h' : H} {v : Value} {ρ' : Rho} {w' : World} {I' : Nat → Prop} (hrun : (execOp act.eval o).run E.P w = .ok (.value v) w') (s : Step h ρ w I h' ρ' w' I') (hx : AR h' ρ' w' I' x v) : Leaves E h ρ w I o act x h' := by
  intro K Q hK
  unfold Oper.wp
  rw [hrun, Oper.upon_value]
  exact hK v ρ' w' I' s hx

theorem leaves_call {o : Oper} {act : Act} {x : A} {h' : H} {f : FuncId} {as : Array Value} (hrun : (execOp act.eval o).run E.P w = .ok (.enter f as) w)
    (hc : Calls E.P f as w fun e w' => ∃ v ρ' I', e = .returned v ∧ Step h ρ w I h' ρ' w' I' ∧ AR h' ρ' w' I' x v) : Leaves E h ρ w I o act x h' := by
  intro K Q hK
  unfold Oper.wp
  rw [hrun, Oper.upon_enter]
  refine hc.mono ?_
  rintro e w' ⟨v, ρ', I', rfl, s, hx⟩
  exact hK v ρ' w' I' s hx

theorem ar_cons {a : A} {as : List A} {vs : List Value} (ha : ARv h ρ w I (a :: as) vs) : ∃ v rest, vs = v :: rest ∧ AR h ρ w I a v ∧ ARv h ρ w I as rest := by simpa only [ARv] using ha

theorem ar_one {a : A} {v : Value} (ha : ARv h ρ w I [a] [v]) : AR h ρ w I a v := by
  obtain ⟨v', rest, h1, h2, _⟩ := ar_cons ha
  cases h1; exact h2

theorem ar_two {a b : A} {u v : Value} (ha : ARv h ρ w I [a, b] [u, v]) : AR h ρ w I a u ∧ AR h ρ w I b v := by
  obtain ⟨v', rest, h1, h2, h3⟩ := ar_cons ha
  cases h1; exact ⟨h2, ar_one h3⟩

theorem ar_three {a b c : A} {u v x : Value} (ha : ARv h ρ w I [a, b, c] [u, v, x]) : AR h ρ w I a u ∧ AR h ρ w I b v ∧ AR h ρ w I c x := by
  obtain ⟨v', rest, h1, h2, h3⟩ := ar_cons ha
  cases h1; exact ⟨h2, ar_two h3⟩

theorem int_of {k : IntKind} {n : Int} {v : Value} (ha : AR h ρ w I (.d (.int k n)) v) : v = .int k n := by simpa only [AR, DR] using ha

theorem one_some {vs : List A} {k : A → Option (A × H)} {x : A × H} (he : one vs k = some x) : ∃ a, vs = [a] ∧ k a = some x := by
  unfold one at he
  split at he
  · exact ⟨_, rfl, he⟩
  · cases he

theorem two_some {vs : List A} {k : A → A → Option (A × H)} {x : A × H} (he : two vs k = some x) : ∃ a b, vs = [a, b] ∧ k a b = some x := by
  unfold two at he
  split at he
  · exact ⟨_, _, rfl, he⟩
  · cases he

theorem withInt_some {a : A} {k : Int → Option (A × H)} {x : A × H} (he : withInt a k = some x) : ∃ kind i, a = .d (.int kind i) ∧ k i = some x := by
  unfold withInt at he
  split at he
  · exact ⟨_, _, rfl, he⟩
  · cases he

theorem builtin_ok {b : Builtin} {tys : Array TypeId} {ty : TypeId} {consts : Array Bool} {vs : List A} {x : A} {h' : H} {us : List Value} (he : aBuiltin E.P h b tys.toList vs = some (x, h')) (r : Rel h ρ w I) (ha : ARv h ρ w I vs us) :
    ∃ v ρ' w', (builtin b tys ty consts us.toArray).run E.P w = .ok (.value v) w' ∧ Step h ρ w I h' ρ' w' I ∧ AR h' ρ' w' I x v := by
  unfold aBuiltin at he
  split at he
  · rename_i t rest a htys
    simp only [Option.map_eq_some_iff] at he
    obtain ⟨x', hb, hh⟩ := he
    cases hh
    obtain ⟨v, r0, rfl, h1, h2⟩ := ar_cons ha
    simp only [ARv] at h2; subst h2
    have ht : tys[0]? = some t := by
      have : tys.toList[0]? = some t := by rw [htys]; rfl
      simpa using this
    obtain ⟨u, hu, hx⟩ := len_ok (P := E.P) (w := w) (ty := ty) ht hb h1
    exact ⟨u, ρ, w, by simp only [builtin, Sem.run_bind, hu]; rfl, .refl r, hx⟩
  · rename_i t u s y htys
    have ht : tys = #[t, u] := by
      rw [← Array.toList_inj, htys]
    subst ht
    obtain ⟨sv, r0, rfl, h1, h2⟩ := ar_cons ha
    obtain ⟨xv, r1, rfl, h3, h4⟩ := ar_cons h2
    simp only [ARv] at h4; subst h4
    split at he
    · cases he
    · cases he
    · rename_i d hnd hd
      obtain ⟨v, ρ', w', h5, h6, h7⟩ := append_ok (P := E.P) (ty := ty) hd (fun k hk => hnd k hk) he r h1 h3
      exact ⟨v, ρ', w', by simp only [builtin, Sem.run_bind, h5]; rfl, h6, h7⟩
  · cases he

theorem evOp_ok (hE : EnvOK E) (hc : CallOK E.P call) {thaw : List Nat} {o : Oper} {act : Act} {vs : List A} {x : A} {h' : H} (he : evOp E call thaw h o vs = some (x, h')) (r : Rel h ρ w I) (ha : ARv h ρ w I vs ((opds o.op).map act.eval)) :
    Leaves E h ρ w I o act x h' := by
  obtain ⟨dst, op, type, pos, after, guard⟩ := o
  cases op with
  | move y =>
    simp only [evOp] at he
    obtain ⟨a, hvs, he2⟩ := one_some he
    clear he; subst hvs; have he := he2; clear he2
    cases he
    exact leaves_value (v := act.eval y) rfl (.refl r) (ar_one ha)
  | assign y =>
    simp only [evOp] at he
    obtain ⟨a, hvs, he2⟩ := one_some he
    clear he; subst hvs; have he := he2; clear he2
    have hval : AR h ρ w I a (act.eval y) := ar_one ha
    have plain : Leaves E h ρ w I { dst, op := .assign y, type, pos, after, guard } act a h := leaves_value (v := act.eval y) rfl (.refl r) hval
    unfold evAssign at he
    split at he
    · split at he
      · cases he; exact plain
      · rename_i e _
        split at he
        · cases he
          have s1 := step_push r (Grew.refl w) (.arr [] e 0) none (by simp) (fun _ => by simp [OR, upd_same])
          refine leaves_value (v := act.eval _) rfl s1 ?_
          simp only [AR, DR] at hval ⊢
          obtain ⟨a, hval⟩ := hval
          refine ⟨a, 0, hval, ?_⟩
          have e : (h ++ [O.arr [] e 0])[h.length]? = some (.arr [] e 0) := by simp
          simp only [slOK, e, upd_same]
          simp
        · cases he
          have s1 := step_push r (Grew.refl w) (.vec [] (e - 1000) 0) none (by simp) (fun _ => by simp [OR, upd_same])
          refine leaves_value (v := act.eval _) rfl s1 ?_
          simp only [AR, DR] at hval ⊢
          obtain ⟨a, hval⟩ := hval
          refine ⟨a, 0, hval, ?_⟩
          have e : (h ++ [O.vec [] (e - 1000) 0])[h.length]? = some (.vec [] (e - 1000) 0) := by simp
          simp only [slOK, e, upd_same]
          simp
    · cases he; exact plain
  | pick c y z =>
    simp only [evOp, evPick] at he
    split at he
    · rename_i b p q
      cases he
      obtain ⟨h1, h2, h3⟩ := ar_three ha
      simp only [AR, DR] at h1
      refine leaves_value (v := if b then act.eval y else act.eval z) ?_ (.refl r) ?_
      · simp only [execOp, Sem.run_bind, h1]
        cases b <;> rfl
      · cases b
        · exact h3
        · exact h2
    · cases he
  | alloc t =>
    simp only [evOp, Option.bind_eq_some_iff] at he
    obtain ⟨z, hz, he⟩ := he
    obtain ⟨i, zv, hi, hzv, hrun, hzr⟩ := zero_ok hz
    obtain ⟨ρ', w', h1, h2, h3⟩ := new_ok (P := E.P) (t := t) he r (hzr h ρ w I)
    exact leaves_value (v := .pointer (some ⟨w.heap.size, 0, none⟩)) (by simp [execOp, Instr.alloc, hrun, h1]) h2 h3
  | box t y =>
    simp only [evOp] at he
    obtain ⟨a, hvs, he2⟩ := one_some he
    clear he; subst hvs; have he := he2; clear he2
    obtain ⟨ρ', w', h1, h2, h3⟩ := new_ok (P := E.P) (t := t) he r (ar_one ha)
    exact leaves_value (v := .pointer (some ⟨w.heap.size, 0, none⟩)) (by simp [execOp, Instr.box, h1]) h2 h3
  | build t parts =>
    simp only [evOp, Option.map_eq_some_iff] at he
    obtain ⟨a, he, hh⟩ := he
    cases hh
    obtain ⟨u, h1, h2⟩ := build_ok (P := E.P) (ev := act.eval) he ha
    exact leaves_value (v := u) (by simp only [execOp, Sem.run_bind, h1]; rfl) (.refl r) h2
  | buildSlice t len parts =>
    simp only [evOp] at he
    split at he
    · obtain ⟨u, ρ', w', I', h1, h2, h3⟩ := buildVec_ok (P := E.P) (ev := act.eval) he r ha
      exact leaves_value (v := u) (by simp only [execOp, Sem.run_bind, h1]; rfl) h2 h3
    · obtain ⟨u, ρ', w', I', h1, h2, h3⟩ := buildSlice_ok (P := E.P) (ev := act.eval) he r ha
      exact leaves_value (v := u) (by simp only [execOp, Sem.run_bind, h1]; rfl) h2 h3
  | load t y =>
    simp only [evOp] at he
    obtain ⟨a, hvs, he2⟩ := one_some he
    clear he; subst hvs; have he := he2; clear he2
    simp only [Option.map_eq_some_iff] at he
    obtain ⟨a', he, hh⟩ := he
    cases hh
    obtain ⟨u, h1, h2⟩ := load_ok (P := E.P) he r (ar_one ha)
    exact leaves_value (v := u) (by simp only [execOp, Sem.run_bind, h1]; rfl) (.refl r) h2
  | store t y z =>
    simp only [evOp] at he
    obtain ⟨a, b, hvs, he2⟩ := two_some he
    clear he; subst hvs; have he := he2; clear he2
    simp only [Option.map_eq_some_iff] at he
    obtain ⟨h2, he, hh⟩ := he
    cases hh
    obtain ⟨h3, h4⟩ := ar_two ha
    obtain ⟨ρ', w', I', h5, h6⟩ := store_ok (P := E.P) he r h3 h4
    intro K Q hK
    unfold Oper.wp
    have hrun : (execOp act.eval { dst, op := .store t y z, type, pos, after, guard }).run E.P w = .ok .skip w' := by
      simp only [execOp, Sem.run_bind, h5]; rfl
    rw [hrun, Oper.upon_skip]
    exact hK undef ρ' w' I' h6 (by simp only [AR, DR])
  | nilCheck y =>
    simp only [evOp] at he
    obtain ⟨a, hvs, he2⟩ := one_some he
    clear he; subst hvs; have he := he2; clear he2
    have hval : AR h ρ w I a (act.eval y) := ar_one ha
    unfold evNilCheck at he
    split at he
    · cases he
      refine leaves_value (v := act.eval y) ?_ (.refl r) hval
      simp only [AR] at hval
      obtain ⟨b, hv, _⟩ := hval
      simp only [execOp, hv]; rfl
    · cases he
      refine leaves_value (v := act.eval y) ?_ (.refl r) hval
      simp only [AR, DR] at hval
      obtain ⟨b, o, hv, _⟩ := hval
      simp only [execOp, hv]; rfl
    · cases he
      refine leaves_value (v := act.eval y) ?_ (.refl r) hval
      simp only [AR] at hval
      obtain ⟨b, hv, _⟩ := hval
      simp only [execOp, hv]; rfl
    · cases he
      refine leaves_value (v := act.eval y) ?_ (.refl r) hval
      simp only [AR, DR] at hval
      obtain ⟨b, hv, _⟩ := hval
      simp only [execOp, hv]; rfl
    · cases he
  | binOp bop t y z t2 =>
    simp only [evOp] at he
    obtain ⟨a, b, hvs, he2⟩ := two_some he
    clear he; subst hvs; have he := he2; clear he2
    obtain ⟨h1, h2⟩ := ar_two ha
    have fin : ∀ x', (∃ u, (do eqGuard bop t y z (act.eval y) (act.eval z); binOp bop t (act.eval y) (act.eval z) : Sem Value).run E.P w = .ok u w ∧ AR h ρ w I x' u) → Leaves E h ρ w I { dst, op := .binOp bop t y z t2, type, pos, after, guard } act x' h := by
      rintro x' ⟨u, hu, hx⟩
      exact leaves_value (v := u) (by simp only [execOp]; rw [Sem.run_bind, hu]; rfl) (.refl r) hx
    unfold evBin at he
    split at he
    · rename_i x' hb
      cases he
      exact fin _ (bin_ok hb h1 h2)
    · split at he
      · rename_i x' hb
        cases he
        exact fin _ (nil_ok hb h1 h2)
      · simp only [Option.map_eq_some_iff] at he
        obtain ⟨x', hb, hh⟩ := he
        cases hh
        exact fin _ (eqAgg_ok hE.eqs hb h1 h2)
  | unOp uop t y =>
    simp only [evOp] at he
    obtain ⟨a, hvs, he2⟩ := one_some he
    clear he; subst hvs; have he := he2; clear he2
    simp only [Option.map_eq_some_iff] at he
    obtain ⟨x', hb, hh⟩ := he
    cases hh
    obtain ⟨u, h1, h2⟩ := un_ok (P := E.P) (w := w) hb (ar_one ha)
    exact leaves_value (v := u) (by simp only [execOp, Sem.run_bind, h1]; rfl) (.refl r) h2
  | convert src dst' y =>
    simp only [evOp] at he
    obtain ⟨a, hvs, he2⟩ := one_some he
    clear he; subst hvs; have he := he2; clear he2
    obtain ⟨u, ρ', w', h1, h2, h3⟩ := convert_ok (P := E.P) he r (ar_one ha)
    exact leaves_value (v := u) (by simp only [execOp, Sem.run_bind, h1]; rfl) h2 h3
  | makeFunc fn first caps =>
    simp only [evOp, evFunc] at he
    split at he
    · rename_i f
      split at he
      · rename_i h0
        cases he
        have hf : first = #[] := by simpa using h0
        subst hf
        refine leaves_value (v := .func (.func f) #[] (caps.map act.eval)) (by simp [execOp, Instr.makeFunc]) (.refl r) ?_
        simp only [AR]
        exact ⟨_, rfl, by simpa [opds] using ha⟩
      · cases he
    · cases he
  | makeSlice t y z =>
    simp only [evOp] at he
    obtain ⟨a, b, hvs, he2⟩ := two_some he
    clear he; subst hvs; have he := he2; clear he2
    obtain ⟨k, l, hvs, he2⟩ := withInt_some he
    clear he; subst hvs
    obtain ⟨k', c, hvs, he⟩ := withInt_some he2
    clear he2; subst hvs
    obtain ⟨h1, h2⟩ := ar_two ha
    split at he
    · obtain ⟨u, ρ', w', h3, h4, h5⟩ := makeVec_ok (P := E.P) (k := k) (k' := k') he r
      exact leaves_value (v := u) (by simp only [execOp, Sem.run_bind, int_of h1, int_of h2, h3]; rfl) h4 h5
    · obtain ⟨u, ρ', w', h3, h4, h5⟩ := makeSlice_ok (P := E.P) (k := k) (k' := k') he r
      exact leaves_value (v := u) (by simp only [execOp, Sem.run_bind, int_of h1, int_of h2, h3]; rfl) h4 h5
  | slice t y lo hi mx =>
    simp only [evOp] at he
    cases mx with
    | some m => simp at he
    | none =>
      simp only [Option.isNone_none, if_true] at he
      unfold evSlice at he
      cases lo with
      | none =>
        cases hi with
        | none =>
          simp only [Option.isSome_none] at he
          split at he
          · simp only [Option.map_eq_some_iff] at he
            obtain ⟨x', hb, hh⟩ := he
            cases hh
            obtain ⟨u, h1, h2⟩ := slice_ok (P := E.P) .i64 .i64 hb (ar_one ha)
            exact leaves_value (v := u) (by simp only [execOp, Sem.run_bind, Option.map_none]; simp only [optV, Option.map_none] at h1; rw [h1]; rfl) (.refl r) h2
          all_goals simp at *
        | some hv =>
          simp only [Option.isSome_none, Option.isSome_some] at he
          split at he
          · simp at *
          · simp at *
          · rename_i a k l _ _
            simp only [Option.map_eq_some_iff] at he
            obtain ⟨x', hb, hh⟩ := he
            cases hh
            obtain ⟨h3, h4⟩ := ar_two ha
            obtain ⟨u, h1, h2⟩ := slice_ok (P := E.P) .i64 k hb h3
            exact leaves_value (v := u) (by simp only [execOp, Sem.run_bind, Option.map_none, Option.map_some, int_of h4]; simp only [optV, Option.map_none, Option.map_some] at h1; rw [h1]; rfl) (.refl r) h2
          all_goals simp at *
      | some lv =>
        cases hi with
        | none =>
          simp only [Option.isSome_none, Option.isSome_some] at he
          split at he
          · simp at *
          · rename_i a k l _ _
            simp only [Option.map_eq_some_iff] at he
            obtain ⟨x', hb, hh⟩ := he
            cases hh
            obtain ⟨h3, h4⟩ := ar_two ha
            obtain ⟨u, h1, h2⟩ := slice_ok (P := E.P) k .i64 hb h3
            exact leaves_value (v := u) (by simp only [execOp, Sem.run_bind, Option.map_none, Option.map_some, int_of h4]; simp only [optV, Option.map_none, Option.map_some] at h1; rw [h1]; rfl) (.refl r) h2
          all_goals simp at *
        | some hv =>
          simp only [Option.isSome_some] at he
          split at he
          · simp at *
          · simp at *
          · simp at *
          · rename_i a k l k' u' _ _
            simp only [Option.map_eq_some_iff] at he
            obtain ⟨x', hb, hh⟩ := he
            cases hh
            obtain ⟨h3, h4, h5⟩ := ar_three ha
            obtain ⟨u, h1, h2⟩ := slice_ok (P := E.P) k k' hb h3
            exact leaves_value (v := u) (by simp only [execOp, Sem.run_bind, Option.map_none, Option.map_some, int_of h4, int_of h5]; simp only [optV, Option.map_some] at h1; rw [h1]; rfl) (.refl r) h2
          · simp at *
  | fieldAddr t y f =>
    simp only [evOp] at he
    obtain ⟨a, hvs, he2⟩ := one_some he
    clear he; subst hvs; have he := he2; clear he2
    simp only [Option.bind_eq_some_iff, Option.map_eq_some_iff] at he
    obtain ⟨⟨off, ft⟩, hf, x', hb, hh⟩ := he
    cases hh
    obtain ⟨u, h1, h2⟩ := fieldAddr_ok (P := E.P) (w := w) hf hb (ar_one ha)
    exact leaves_value (v := u) (by simp only [execOp, Sem.run_bind, h1]; rfl) (.refl r) h2
  | field t y f =>
    simp only [evOp] at he
    obtain ⟨a, hvs, he2⟩ := one_some he
    clear he; subst hvs; have he := he2; clear he2
    unfold evField at he
    split at he
    · rename_i cs off ft hf
      simp only [Option.map_eq_some_iff, Option.bind_eq_some_iff] at he
      obtain ⟨x', ⟨b, hb, ho⟩, hh⟩ := he
      cases hh
      obtain ⟨u, h1, h2⟩ := field_ok (P := E.P) (w := w) hf hb ho (ar_one ha)
      exact leaves_value (v := u) (by simp only [execOp, Sem.run_bind, h1]; rfl) (.refl r) h2
    · cases he
  | indexAddr t y z =>
    simp only [evOp] at he
    obtain ⟨a, b, hvs, he2⟩ := two_some he
    clear he; subst hvs; have he := he2; clear he2
    obtain ⟨k, i, hvs, he2⟩ := withInt_some he
    clear he; subst hvs; have he := he2; clear he2
    simp only [Option.map_eq_some_iff] at he
    obtain ⟨x', hb, hh⟩ := he
    cases hh
    obtain ⟨h3, h4⟩ := ar_two ha
    obtain ⟨u, h1, h2⟩ := indexAddr_ok (P := E.P) (k := k) hb h3
    exact leaves_value (v := u) (by simp only [execOp, Sem.run_bind, int_of h4, h1]; rfl) (.refl r) h2
  | index t y z =>
    simp only [evOp] at he
    obtain ⟨a, b, hvs, he2⟩ := two_some he
    clear he; subst hvs; have he := he2; clear he2
    obtain ⟨k, i, hvs, he2⟩ := withInt_some he
    clear he; subst hvs; have he := he2; clear he2
    simp only [Option.map_eq_some_iff] at he
    obtain ⟨x', hb, hh⟩ := he
    cases hh
    obtain ⟨h3, h4⟩ := ar_two ha
    obtain ⟨u, h1, h2⟩ := index_ok (P := E.P) (w := w) (k := k) hb h3
    exact leaves_value (v := u) (by simp only [execOp, Sem.run_bind, int_of h4, h1]; rfl) (.refl r) h2
  | extract y i =>
    simp only [evOp] at he
    obtain ⟨a, hvs, he2⟩ := one_some he
    clear he; subst hvs; have he := he2; clear he2
    unfold evExtract at he
    split at he
    · rename_i vs
      simp only [Option.map_eq_some_iff] at he
      obtain ⟨x', hb, hh⟩ := he
      cases hh
      have h1 := ar_one ha
      simp only [AR] at h1
      obtain ⟨C, hC, hv⟩ := h1
      obtain ⟨u, hu, hx⟩ := ((ARv_iff _ _).1 hv).2 i x hb
      have hu' : C[i]? = some u := by simpa using hu
      refine leaves_value (v := u) ?_ (.refl r) hx
      simp only [execOp, hC]
      simp [Instr.extract, hu']
    · cases he
  | call c =>
    obtain ⟨callee, args, tys⟩ := c
    cases callee with
    | value f =>
      simp only [evOp, evCallee] at he
      split at he
      · rename_i g as
        obtain ⟨gv, rest, h1, h2, h3⟩ := ar_cons ha
        simp only [opds, List.map_cons, List.cons.injEq] at h1
        obtain ⟨h4, h5⟩ := h1
        subst h4; subst h5
        obtain ⟨k, as', h6, h7⟩ := aCallee_ok hc he r h2 h3
        refine leaves_call (f := k) (as := as') ?_ h7
        simp only [execOp, resolve]
        have e : (args.map act.eval) = (args.toList.map act.eval).toArray := by apply Array.toList_inj.1; simp
        rw [e]
        exact h6
      · cases he
    | builtin b =>
      simp only [evOp, evCallee] at he
      obtain ⟨v, ρ', w', h1, h2, h3⟩ := builtin_ok (ty := type) (consts := args.map fun | .const _ => true | _ => false) he r ha
      refine leaves_value (v := v) ?_ h2 h3
      simp only [execOp, resolve, Sem.run_bind, Sem.run_pure, Result.andThen_ok, invoke]
      have e : (args.map act.eval) = (args.toList.map act.eval).toArray := by apply Array.toList_inj.1; simp
      rw [e]
      exact h1
    | invoke a b => cases he
  | _ => cases he

end

end Ev
end Go.Proofs.Ytidobgmklcbcpaa
