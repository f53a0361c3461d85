/- Part of a proof of a statement of the seat; see its last text. No condition. -/
import Derived.Test.YthkfepgmfjpkdaaAe3
import Derived.Recover
import Derived.KernelRfl
import Derived.Test.YthkfepgmfjpkdaaProg
set_option linter.all false

namespace Go.AE
open Go Go.Proofs
set_option linter.unusedSimpArgs false
set_option linter.unusedVariables false
set_option maxRecDepth 100000

theorem caught_fn : Try.prog.funcs[70]? = some Try.f70 := by kernel_rfl
theorem caught_body : Try.f70.body.isNone = false := by kernel_rfl

theorem caught_ret (ad : Addr) (w : World) : CallsD Try.prog 70 #[.pointer (some ad)] .returning w fun e u' w' => (∃ v, e = .returned v) ∧ u' = .returning ∧ w' = w := by
  refine callsD_of_wpS (fn := Try.f70) caught_fn rfl fun c₀ cs hu => ?_
  refine wpS_seq (wpS_region ?_)
  have hrec : recoverD (c₀ :: cs) = none := by simp [recoverD, hu]
  have hx : ∀ a : Act, (execOp a.eval { dst := some 5, op := Op.call { callee := Callee.builtin Builtin.recover, args := #[], argTypes := #[] }, type := 20, pos := "expr.go:62", after := #[], guard := none }).run Try.prog w = .ok .recover w := by
    intro a; rfl
  simp only [show (List.range 1) = [0] from rfl, Array.size, List.length, wpOpsS]
  simp only [Region.wanted, if_true, hx, hrec, List.getElem?_toArray, List.getElem?_cons_zero, List.size_toArray, List.length_cons, List.length_nil, Nat.zero_add]
  rw [show ({ tmps := #[Value.pointer (some ad)] ++ Array.replicate (Try.f70.ntmps - 1) undef, defers := [] } : Act).put (some 5) Value.nilIface =
    { tmps := #[.pointer (some ad), undef, undef, undef, undef, .nilIface, undef, undef, undef, undef, undef, undef, undef, undef], defers := [] } from rfl]
  refine wpS_of_wp (wp_block (wp_seq (wp_region ?_)))
  have h3 : ∀ a : Act, a.eval (.tmp 5) = .nilIface → (execOp a.eval { dst := some 7, op := Op.binOp BinOp.eql 20 (Operand.tmp 5) (Operand.const Value.nilIface) 20, type := 4, pos := "expr.go:62", after := #[], guard := none }).run Try.prog w = .ok (.value (.bool true)) w := by
    intro a ha
    simp only [execOp, ha]
    rfl
  simp only [List.size_toArray, List.length_cons, List.length_nil, Nat.zero_add, show (List.range 1) = [0] from rfl, wpOps, List.getElem?_toArray, List.getElem?_cons_zero, Region.wanted, if_true]
  left
  unfold Oper.wp
  rw [h3 _ rfl]
  simp only [Oper.upon]
  refine wp_cond_true rfl (wp_region ?_)
  simp only [List.size_toArray, List.length_cons, List.length_nil, Nat.zero_add, show (List.range 1) = [0] from rfl, wpOps, List.getElem?_toArray, List.getElem?_cons_zero, Region.wanted, if_true]
  left
  unfold Oper.wp
  rw [show ∀ a : Act, (execOp a.eval { dst := some 2, op := Op.assign (Operand.tmp 5), type := 20, pos := "expr.go:62", after := #[], guard := none }).run Try.prog w = .ok (.value (a.eval (.tmp 5))) w from fun a => rfl]
  simp only [Oper.upon]
  exact ⟨rfl, .returning, by rw [← hu], .tuple #[], run_results (fn := Try.f70) (vs := []) rfl, ⟨_, rfl⟩, rfl, rfl⟩

/-- registers, told one by one -/
structure Act14 (a : Act) (f : Nat → Value) : Prop where
  size : a.tmps.size = 14
  get : ∀ t, t < 14 → a.eval (.tmp t) = f t
  df : a.defers = []

theorem Act14.put {a : Act} {f : Nat → Value} (h : Act14 a f) (d : Nat) (v : Value) : Act14 (a.put (some d) v) (fun t => if d = t then v else f t) := by
  refine ⟨by simp [Act.put, h.size], fun t ht => ?_, h.df⟩
  by_cases e : d = t
  · subst e; simp [Act.eval, Act.put, h.size, ht]
  · rw [Act.eval_put (by rintro d' hd; simp only [Option.some.injEq] at hd; subst hd; simp; exact fun h => e h.symm), h.get t ht]
    simp [e]
theorem Act14.skip {a : Act} {f : Nat → Value} (h : Act14 a f) (v : Value) : Act14 (a.put none v) f := h

theorem wpOps_skip {ops : Array Oper} {Q : Exit → Act → World → Prop} {i : Nat} {rest : List Nat} {o : Oper} {a : Act} {w w' : World} (ho : ops[i]? = some o) (hg : o.guard = none)
    (hr : (execOp a.eval o).run Try.prog w = .ok .skip w') (h : wpOps Try.prog ops Q rest (a.put o.dst undef) w') : wpOps Try.prog ops Q (i :: rest) a w := by
  simp only [wpOps, ho, Region.wanted, hg, if_true]
  left
  unfold Oper.wp
  rw [hr]
  exact h


section
variable {ρ : Operand → Value} {o : Oper} {w : World} {kd : IntKind} {n : Int}
theorem cp_eql (ho : o.op = .binOp .eql 20 (.tmp 5) (.const .nilIface) 20) (h5 : ρ (.tmp 5) = .iface 124 (.int kd n)) (hc : ρ (.const .nilIface) = .nilIface) :
    (execOp ρ o).run Try.prog w = .ok (.value (.bool false)) w := by
  unfold execOp; rw [ho]; simp only [h5, hc]; kernel_rfl
theorem cp_ta (ho : o.op = .typeAssert (.tmp 5) 20 124 true) (h5 : ρ (.tmp 5) = .iface 124 (.int kd n)) :
    (execOp ρ o).run Try.prog w = .ok (.value (.tuple #[.int kd n, .bool true])) w := by
  unfold execOp; rw [ho]; simp only [h5]; kernel_rfl
theorem cp_ex {t : Tmp} {i : Nat} {vs : Array Value} {v : Value} (ho : o.op = .extract (.tmp t) i) (h : ρ (.tmp t) = .tuple vs) (hv : vs[i]? = some v) :
    (execOp ρ o).run Try.prog w = .ok (.value v) w := by
  unfold execOp; rw [ho]; simp only [h, Instr.extract, hv]; rfl
theorem cp_mv {x : Operand} {v : Value} (ho : o.op = .move x ∨ o.op = .assign x) (h : ρ x = v) :
    (execOp ρ o).run Try.prog w = .ok (.value v) w := by
  unfold execOp; rcases ho with ho | ho <;> rw [ho] <;> simp only [h] <;> rfl
theorem cp_nc {x : Operand} {ad : Addr} (ho : o.op = .nilCheck x) (h : ρ x = .pointer (some ad)) :
    (execOp ρ o).run Try.prog w = .ok (.value (.pointer (some ad))) w := by
  unfold execOp; rw [ho]; simp only [h]; rfl
end
theorem info47 : ∃ td, Try.prog.underlying 47 = some td := ⟨_, rfl⟩
theorem size47 : sizeT Try.prog 47 = 1 := by kernel_rfl
theorem cp_st {ρ : Operand → Value} {o : Oper} {w : World} {kd : IntKind} {n : Int} {b off : Nat} {x y : Operand} (ho : o.op = .store 47 x y) (hx : ρ x = .pointer (some ⟨b, off, none⟩)) (hy : ρ y = .int kd n)
    (hc : (w.cell? ⟨b, off, none⟩).isSome = true) (hz : w.frozen? ⟨b, off, none⟩ = false) :
    (execOp ρ o).run Try.prog w = .ok .skip (w.setCells b off [.int kd n]) := by
  obtain ⟨td, htd⟩ := info47
  have h := run_storeAt (T := Try.prog) (w := w) (b := b) (off := off) (v := .int kd n) htd (by rw [size47]; rfl)
    (fun j hj => by have : j = 0 := by simp [Value.cells] at hj; exact hj
                    subst this; simpa using hc)
    (fun j hj => by have : j = 0 := by simp [Value.cells] at hj; exact hj
                    subst this; simpa using hz) (by intro u hu; simp [Value.cells] at hu; subst hu; rfl)
  unfold execOp; rw [ho]; simp only [hx, hy, Sem.run_bind, h, Result.andThen_ok]; rfl
theorem act0_get (v : Value) (m : Nat) (t : Nat) (ht : t < m + 1) : Act.eval { tmps := #[v] ++ Array.replicate m undef, defers := [] } (.tmp t) = if t = 0 then v else undef := by
  simp only [Act.eval, Array.getD_eq_getD_getElem?, Array.getElem?_append]
  by_cases h : t = 0
  · subst h; simp
  · simp [h, show ¬ t < 1 by omega, show t - 1 < m by omega, Array.getElem?_replicate]

theorem caught_pan (b o : Nat) (w : World) (kd : IntKind) (n : Int) (hc : (w.cell? ⟨b, o, none⟩).isSome = true) (hz : w.frozen? ⟨b, o, none⟩ = false) :
    CallsD Try.prog 70 #[.pointer (some ⟨b, o, none⟩)] (.panicking [{ v := .iface 124 (.int kd n), recovered := false }]) w fun e u' w' =>
      (∃ v, e = .returned v) ∧ u' = .panicking [{ v := .iface 124 (.int kd n), recovered := true }] ∧ w' = w.setCells b o [.int kd n] := by
  refine callsD_of_wpS (fn := Try.f70) caught_fn rfl fun c₀ cs hu => ?_
  have hrec : recoverD (c₀ :: cs) = some (.iface 124 (.int kd n), { c₀ with mode := .panicking [{ v := .iface 124 (.int kd n), recovered := true }] } :: cs) := by simp [recoverD, hu]
  have A0 : Act14 { tmps := #[.pointer (some ⟨b, o, none⟩)] ++ Array.replicate (Try.f70.ntmps - 1) undef, defers := [] } (fun t => if t = 0 then .pointer (some ⟨b, o, none⟩) else undef) := by
    exact ⟨by simp [show Try.f70.ntmps = 14 from rfl], fun t ht => act0_get _ _ t ht, rfl⟩
  revert A0
  show ∀ A0 : Act14 ({ tmps := #[.pointer (some ⟨b, o, none⟩)] ++ Array.replicate (Try.f70.ntmps - 1) undef, defers := [] } : Act) _, _
  generalize ({ tmps := #[.pointer (some ⟨b, o, none⟩)] ++ Array.replicate (Try.f70.ntmps - 1) undef, defers := [] } : Act) = a0
  intro A0
  refine wpS_seq (wpS_region ?_)
  show wpOpsS Try.prog _ _ [0] _ _ _
  have hx : ∀ a : Act, (execOp a.eval { dst := some 5, op := Op.call { callee := Callee.builtin Builtin.recover, args := #[], argTypes := #[] }, type := 20, pos := "expr.go:62", after := #[], guard := none }).run Try.prog w = .ok .recover w := by
    intro a; rfl
  simp only [wpOpsS, Region.wanted, if_true, hx, hrec, List.getElem?_toArray, List.getElem?_cons_zero]
  have A1 := A0.put 5 (.iface 124 (.int kd n))
  generalize a0.put (some 5) (.iface 124 (.int kd n)) = a1 at A1
  refine wpS_of_wp (wp_block (wp_seq (wp_region ?_)))
  show wpOps Try.prog _ _ [0] _ _
  refine wpOps_val (T := Try.prog) rfl rfl (cp_eql rfl (A1.get 5 (by decide)) rfl) ?_
  have A2 := A1.put 7 (.bool false)
  show Code.wp _ _ _ (a1.put (some 7) (.bool false)) _
  generalize a1.put (some 7) (.bool false) = a2 at A2
  refine wp_cond_false (A2.get 7 (by decide)) (wp_seq (wp_region ?_))
  show wpOps Try.prog _ _ [0, 1, 2] _ _
  refine wpOps_val (T := Try.prog) rfl rfl (cp_ta rfl (A2.get 5 (by decide))) ?_
  have A3 := A2.put 8 (.tuple #[.int kd n, .bool true])
  show wpOps _ _ _ _ (a2.put (some 8) (.tuple #[.int kd n, .bool true])) _
  generalize a2.put (some 8) (.tuple #[.int kd n, .bool true]) = a3 at A3
  refine wpOps_val (T := Try.prog) rfl rfl (cp_ex (v := .bool true) rfl (A3.get 8 (by decide)) rfl) ?_
  have A4 := A3.put 9 (.bool true)
  show wpOps _ _ _ _ (a3.put (some 9) (.bool true)) _
  generalize a3.put (some 9) (.bool true) = a4 at A4
  refine wpOps_val (T := Try.prog) rfl rfl (cp_ex (v := .int kd n) rfl (A4.get 8 (by decide)) rfl) ?_
  have A5 := A4.put 10 (.int kd n)
  show Code.wp _ _ _ (a4.put (some 10) (.int kd n)) _
  generalize a4.put (some 10) (.int kd n) = a5 at A5
  refine wp_cond_true (A5.get 9 (by decide)) (wp_seq (wp_region ?_))
  show wpOps Try.prog _ _ [0] _ _
  refine wpOps_val (T := Try.prog) rfl rfl (cp_mv (.inr rfl) (A5.get 10 (by decide))) ?_
  have A6 := A5.put 3 (.int kd n)
  show Code.wp _ _ _ (a5.put (some 3) (.int kd n)) _
  generalize a5.put (some 3) (.int kd n) = a6 at A6
  refine wp_region ?_
  show wpOps Try.prog _ _ [0, 1, 2, 3] _ _
  refine wpOps_val (T := Try.prog) rfl rfl (cp_mv (.inl rfl) (A6.get 0 (by decide))) ?_
  have A7 := A6.put 11 (.pointer (some ⟨b, o, none⟩))
  show wpOps _ _ _ _ (a6.put (some 11) (.pointer (some ⟨b, o, none⟩))) _
  generalize a6.put (some 11) (.pointer (some ⟨b, o, none⟩)) = a7 at A7
  refine wpOps_val (T := Try.prog) rfl rfl (cp_mv (.inl rfl) (A7.get 3 (by decide))) ?_
  have A8 := A7.put 12 (.int kd n)
  show wpOps _ _ _ _ (a7.put (some 12) (.int kd n)) _
  generalize a7.put (some 12) (.int kd n) = a8 at A8
  refine wpOps_val (T := Try.prog) rfl rfl (cp_nc rfl (A8.get 11 (by decide))) ?_
  have A9 := A8.put 13 (.pointer (some ⟨b, o, none⟩))
  show wpOps _ _ _ _ (a8.put (some 13) (.pointer (some ⟨b, o, none⟩))) _
  generalize a8.put (some 13) (.pointer (some ⟨b, o, none⟩)) = a9 at A9
  refine wpOps_skip rfl rfl (cp_st rfl (A9.get 13 (by decide)) (A9.get 12 (by decide)) hc hz) ?_
  exact ⟨A9.df, _, rfl, .tuple #[], run_results (fn := Try.f70) (vs := []) rfl, ⟨_, rfl⟩, rfl, rfl⟩
end Go.AE
