/- An evaluator of the program's code over plain data, and its soundness (part 2). No condition. -/
import Derived.Test.YthkfepgmfjpkdaaAe1
set_option linter.all false

section
namespace Go.AE
open Go
set_option linter.unusedSimpArgs false
set_option linter.unusedVariables false
section
variable {T : Program} {B : Base} {C : Ctx} {st : St} {a : Act} {w w' : World} {o : Oper}
variable {CALL : FuncId → List D → List Blk → (Res → List Blk → Prop) → Prop} {DFR : List (FuncId × List D) → Ex → List Blk → (Ex → List Blk → Prop) → Prop} {esc ap : List Tmp}
  {k : D → St → Prop} {kp : P → St → Prop}

theorem move_ok (R : Rel B C st a w []) {x : Operand} (hop : o.op = .move x ∨ o.op = .assign x) (h : eop T (AP CALL DFR) esc ap st o k kp) : OpOK T B o a w k kp := by
  have hrun : (execOp a.eval o).run T w = .ok (.value (a.eval x)) w := by
    rcases hop with hop | hop <;> (unfold execOp; rw [hop]; rfl)
  have copy : k (downD (opdD st.r x)) st → OpOK T B o a w k kp := fun h => ok_value hrun h (R.copy x)
  have plainc : (∀ t, x ≠ .tmp t) → k (opdD st.r x) st → OpOK T B o a w k kp := fun hx h => ok_value hrun h (R.push (opdD_loose hx) (R.opd x))
  have give : ∀ t, x = .tmp t → k (opdD st.r (.tmp t)) (giveR st t) → OpOK T B o a w k kp := fun t e h => by
    subst e; exact ok_value hrun h (R.give t)
  unfold eop at h
  rcases hop with hop | hop
  · rw [hop] at h
    cases x with
    | tmp t =>
      simp only [] at h
      split at h
      · split at h
        · exact give t rfl h
        · exact copy h
      · exact copy h
    | const v => exact plainc (by simp) h
    | global g => exact plainc (by simp) h
    | func f => exact plainc (by simp) h
  · rw [hop] at h
    cases x with
    | tmp t => exact give t rfl h
    | const v => exact plainc (by simp) h
    | global g => exact plainc (by simp) h
    | func f => exact plainc (by simp) h

theorem pick_ok (R : Rel B C st a w []) {c x y : Operand} (hop : o.op = .pick c x y) (h : eop T (AP CALL DFR) esc ap st o k kp) : OpOK T B o a w k kp := by
  unfold eop at h
  rw [hop] at h
  simp only [] at h
  split at h
  case h_2 => exact h.elim
  rename_i b hb
  have hc := R.opd c
  rw [hb] at hc
  simp only [RepD, RepP] at hc
  have hrun : (execOp a.eval o).run T w = .ok (.value (if b then a.eval x else a.eval y)) w := by
    unfold execOp; rw [hop]; simp [hc.1, asBool]
  rcases pbr_elim h with ⟨rfl, h'⟩ | ⟨rfl, h'⟩
  · exact ok_value hrun h' (R.copy x)
  · exact ok_value hrun h' (R.copy y)

theorem panic_ok (R : Rel B C st a w []) {x : Operand} (hop : o.op = .panic x) (h : eop T (AP CALL DFR) esc ap st o k kp) : OpOK T B o a w k kp := by
  unfold eop at h
  rw [hop] at h
  simp only [] at h
  have hrun : ∀ t u, a.eval x = .iface t u → (execOp a.eval o).run T w = .halt (.panic (a.eval x)) w := by
    intro t u e
    unfold execOp; rw [hop]; simp [e, Instr.panic]
  split at h
  · rename_i t v hp
    have hr := D.toP_rep hp (R.opd x)
    simp only [RepP] at hr
    exact ok_panic (hrun _ _ hr.1) h (R.push rfl (by simp only [RepD, RepP]; exact hr))
  · rename_i t p hp
    have hr := D.toP_rep hp (R.opd x)
    have hr' := hr
    simp only [RepP] at hr
    obtain ⟨u, hu, hr⟩ := hr
    exact ok_panic (hrun _ _ hu) h (R.push rfl (by simp only [RepD]; exact hr'))
  · exact h.elim

theorem makeInterface_ok (R : Rel B C st a w []) {t : TypeId} {x : Operand} (hop : o.op = .makeInterface t x) (h : eop T (AP CALL DFR) esc ap st o k kp) : OpOK T B o a w k kp := by
  unfold eop at h
  rw [hop] at h
  simp only [] at h
  split at h
  case isFalse => exact h.elim
  rename_i hc
  have hrun : (execOp a.eval o).run T w = .ok (.value (.iface t (a.eval x))) w := by
    unfold concT at hc
    split at hc
    · simp at hc
    · rename_i d hd hu
      unfold execOp; rw [hop]
      have : ∀ ms, d ≠ .interface ms := fun ms e => hd ms e
      simp only [Sem.run_bind, Instr.makeInterface, run_underlying hu, Result.andThen_ok]
      cases d <;> first | rfl | exact absurd rfl (this _)
    · simp at hc
  split at h
  · rename_i v hp
    have hr := D.toP_rep hp (R.opd x)
    simp only [RepP] at hr
    refine ok_value hrun h (R.push rfl ?_)
    simp only [RepD, RepP, plain]
    exact ⟨by rw [hr.1], hr.2⟩
  · rename_i p _ hp
    have hr := D.toP_rep hp (R.opd x)
    refine ok_value hrun h (R.push rfl ?_)
    simp only [RepD, RepP]
    exact ⟨_, rfl, hr⟩
  · exact h.elim

theorem makeFunc_ok (R : Rel B C st a w []) {f : FuncId} {first captured : Array Operand} (hop : o.op = .makeFunc (.func f) first captured) (h : eop T (AP CALL DFR) esc ap st o k kp) : OpOK T B o a w k kp := by
  unfold eop at h
  rw [hop] at h
  simp only [] at h
  split at h
  case isFalse => exact h.elim
  rename_i hf
  unfold optR at h
  split at h
  case h_2 => exact h.elim
  rename_i q hq
  obtain ⟨ds, st'⟩ := q
  obtain ⟨C', c1, R', r1, r2, r3, _⟩ := sealAll_ok R (opds_rep R captured.toList) hq
  have hrun : (execOp a.eval o).run T w = .ok (.value (.func (.func f) #[] (captured.map a.eval))) w := by
    unfold execOp; rw [hop]
    have : first = #[] := by simpa using hf
    simp [Instr.makeFunc, this]
  refine ok_value hrun h (R'.push rfl ?_)
  simp only [RepD]
  exact ⟨_, rfl, by simpa using r1⟩

theorem calleeOf_ok {ex : List (D × Value)} (R : Rel B C st a w ex) {c : Callee} {f : FuncId} {caps : List D} (h : calleeOf st.r c = some (f, caps)) :
    ∃ x cs, c = .value x ∧ a.eval x = .func (.func f) #[] cs ∧ RepDs C caps cs.toList := by
  unfold calleeOf at h
  split at h
  · rename_i x
    have hx := R.opd x
    split at h
    · rename_i f' cp hd
      simp only [Option.some.injEq, Prod.mk.injEq] at h
      obtain ⟨rfl, rfl⟩ := h
      rw [hd] at hx
      simp only [RepD] at hx
      obtain ⟨cs, h1, h2⟩ := hx
      exact ⟨x, cs, rfl, h1, h2⟩
    · rename_i f' cp hd
      simp only [Option.some.injEq, Prod.mk.injEq] at h
      obtain ⟨rfl, rfl⟩ := h
      rw [hd] at hx
      simp only [RepD, RepP] at hx
      obtain ⟨cs, h1, h2⟩ := hx
      exact ⟨x, cs, rfl, h1, h2.toD⟩
    · rename_i f' fi cp hd
      simp only [Option.some.injEq, Prod.mk.injEq] at h
      obtain ⟨rfl, rfl⟩ := h
      rw [hd] at hx
      simp only [RepD, RepP, plain, Bool.and_eq_true] at hx
      have e1 : fi = #[] := by simpa using hx.2.1
      have e2 : cp = #[] := by simpa using hx.2.2
      subst e1 e2
      exact ⟨x, #[], rfl, hx.1, by simp [RepDs]⟩
    · simp at h
  · simp at h

theorem RepDs.append {ds es : List D} {vs us : List Value} (h : RepDs C ds vs) (g : RepDs C es us) : RepDs C (ds ++ es) (vs ++ us) := by
  have l1 := h.length
  have l2 := g.length
  refine RepDs.mk (by simp [l1, l2]) fun i d v hd hv => ?_
  by_cases hi : i < ds.length
  · rw [getL_append_left hi] at hd
    rw [List.getElem?_append_left (by omega)] at hv
    obtain ⟨u, e1, e2⟩ := h.get hd
    rw [e1, Option.some.injEq] at hv; subst hv; exact e2
  · rw [getL_eq, List.getElem?_append_right (by omega)] at hd
    rw [List.getElem?_append_right (by omega), ← l1] at hv
    obtain ⟨u, e1, e2⟩ := g.get (i := i - ds.length) (by rw [getL_eq]; exact hd)
    rw [e1, Option.some.injEq] at hv; subst hv; exact e2

theorem defer_ok (R : Rel B C st a w []) {c : Call} (hop : o.op = .defer c) (h : eop T (AP CALL DFR) esc ap st o k kp) : OpOK T B o a w k kp := by
  unfold eop at h
  rw [hop] at h
  simp only [] at h
  split at h
  case h_2 => exact h.elim
  rename_i f caps hc
  unfold optR at h
  split at h
  case h_2 => exact h.elim
  rename_i q hq
  obtain ⟨ds, st'⟩ := q
  obtain ⟨x, cs, hcx, hx, hcr⟩ := calleeOf_ok R hc
  obtain ⟨C', c1, R', r1, r2, r3, e1, e2, e3⟩ := sealAll_ok R (RepDs.append (opds_rep R c.args.toList) hcr) hq
  have hrun : (execOp a.eval o).run T w = .ok (.defer { target := .fn (.func f) cs, args := c.args.map a.eval }) w := by
    unfold execOp; rw [hop]
    simp [resolve, hcx, Deferred.ofValue, hx]
  unfold OpOK Oper.wp
  rw [hrun]
  refine ⟨.dead, { st' with df := (f, ds) :: st'.df }, C', undef, { a with defers := { target := .fn (.func f) cs, args := c.args.map a.eval } :: a.defers }, h, ?_, rfl⟩
  have R2 := R'.push (d := .dead) (v := undef) rfl (by simp [RepD])
  refine R2.shift rfl rfl R2.len (by simp; exact R2.defs) ?_ id (fun _ h => h) (fun p d v hp hv => ⟨R2.at hp hv, .inr hv⟩) (fun p q d v d' v' _ _ _ _ _ _ e => e)
  intro i q d hi hd
  cases i with
  | zero =>
    simp only [getL, Option.some.injEq] at hi
    simp only [List.getElem?_cons_zero, Option.some.injEq] at hd
    subst hi hd
    exact ⟨r2, cs, rfl, by simpa using r1⟩
  | succ i => exact R2.defr i q d (by simpa [getL] using hi) (by simpa using hd)

/-- what is claimed of calls holds -/
def CallSound (T : Program) (CALL : FuncId → List D → List Blk → (Res → List Blk → Prop) → Prop) : Prop :=
  ∀ f ds h K, CALL f ds h K → CallOK T f ds h K
def NoNum (T : Program) : Prop := ∀ (f : FuncId) (fn : Func), T.funcs[f]? = some fn → (fn.name == "runtime.NumGoroutine") = false

theorem call_ok (hN : NoNum T) (hC : CallSound T CALL) (R : Rel B C st a w []) {c : Call} (hop : o.op = .call c) (h : eop T (AP CALL DFR) esc ap st o k kp) : OpOK T B o a w k kp := by
  have hs : ∀ cs b, o.op ≠ .select cs b := by intro cs b; rw [hop]; simp
  obtain ⟨callee, args, argTypes⟩ := c
  by_cases happ : callee = .builtin .append
  · subst happ; exact append_ok R hop h
  unfold eop at h
  rw [hop] at h
  cases callee with
  | invoke recv name => exact h.elim
  | builtin b =>
    have hb : b ≠ .append := fun e => happ (by rw [e])
    have h' : (match structOp T st.r o with
      | some d => k d st
      | none => match valsOf st.r args.toList with
        | some vs => match pureRun T (builtinS b argTypes o.type vs) with
          | some v => if plainV v then k (.p (ofVal v)) st else False
          | none => False
        | none => False) := by
      cases b <;> first | exact absurd rfl hb | exact h
    split at h'
    · rename_i d hd
      obtain ⟨v, h1, h2, h3⟩ := structOp_ok R hd
      exact ok_value h1 h' (R.push h3 h2)
    · split at h'
      · rename_i vs hvs
        split at h'
        · rename_i v hv
          split at h'
          · rename_i hp
            have hargs : (args.map a.eval) = vs.toArray := by
              have := valsOf_map a.eval hvs (fun x hx v hv => by
                have := valOf_eval R hv
                rw [this, valOf, hv]; rfl)
              apply Array.ext'
              simpa using this
            have hr := pureRun_run hv w
            refine ok_value (v := v) (w' := w) ?_ h' (R.push rfl (by simp only [RepD]; exact RepP_ofVal v hp))
            unfold execOp; rw [hop]
            simp only [resolve, Sem.run_bind, Sem.run_pure, Result.andThen_ok, invoke, hargs]
            cases b <;> simp only [builtinS] at hr <;> first | (simp only [builtin, Sem.run_bind, hr, Result.andThen_ok, Sem.run_pure]; done) | (simp at hr)
          · exact h'.elim
        · exact h'.elim
      · exact h'.elim
  | value x =>
    simp only [] at h
    split at h
    case h_2 => exact h.elim
    rename_i f caps hc
    obtain ⟨y, cs, hcx, hx, hcr⟩ := calleeOf_ok R hc
    simp only [Callee.value.injEq] at hcx
    subst hcx
    have hexec : execOp a.eval o = callFunc f (args.map a.eval ++ cs) := by
      unfold execOp; rw [hop]
      simp [resolve, Deferred.ofValue, hx, invoke]
    split at h
    · -- without a body
      split at h
      case isFalse => exact h.elim
      rename_i hcaps
      split at h
      case h_2 => exact h.elim
      rename_i vs hvs
      split at h
      case h_2 => exact h.elim
      rename_i v hv
      split at h
      case isFalse => exact h.elim
      rename_i hp
      have hcs : cs = #[] := by
        have : caps = [] := by simpa using hcaps
        subst this
        simp only [RepDs] at hcr
        apply Array.ext'; simpa using hcr
      have hargs : (args.map a.eval ++ cs) = vs.toArray := by
        have := valsOf_map a.eval hvs (fun x hx v hv => by
          have := valOf_eval R hv
          rw [this, valOf, hv]; rfl)
        apply Array.ext'
        simpa [hcs] using this
      refine ok_value (v := v) (w' := w) ?_ h (R.push rfl (by simp only [RepD]; exact RepP_ofVal v hp))
      rw [hexec, hargs]
      exact pureRun_run hv w
    · rename_i hbody
      split at h
      case h_2 => exact h.elim
      rename_i ds st' hq
      obtain ⟨C', c1, R', r1, r2, r3, e1, e2, e3⟩ := sealAll_ok R (RepDs.append (opds_rep R args.toList) hcr) hq
      obtain ⟨fn, hfn⟩ : ∃ fn, T.funcs[f]? = some fn := by
        cases hq : T.funcs[f]? with
        | none => simp [hq] at hbody
        | some fn => exact ⟨fn, rfl⟩
      have hb : fn.body.isNone = false := by
        cases hq : fn.body with
        | none => simp [hfn, hq] at hbody
        | some b => rfl
      have hrun : (execOp a.eval o).run T w = .ok (.enter f (args.map a.eval ++ cs)) w := by
        rw [hexec]
        unfold callFunc
        simp only [Sem.run_bind, run_program, Result.andThen_ok, hfn, hN f fn hfn, hb, Bool.false_eq_true, if_false, Sem.run_pure]
      have hcall := hC f ds st'.h _ h (noBox C') w (args.toList.map a.eval ++ cs.toList)
        (RepDs.mono noBox_le _ _ (okArgs_lpDs r2) r1) r2 r3 R'.toH
      have harr : (args.toList.map a.eval ++ cs.toList).toArray = args.map a.eval ++ cs := by
        apply Array.ext'; simp
      rw [harr] at hcall
      unfold OpOK Oper.wp
      rw [hrun, Oper.upon_enter]
      refine hcall.mono fun e w2 hpost => ?_
      obtain ⟨C2, r, h2, hk, hm⟩ := hpost
      cases r with
      | ret d =>
        obtain ⟨v, rfl, hok, hR⟩ := hm
        exact ⟨d, { st' with h := h2 }, joinC C' C2, v, a, hk, R'.back hR hok, rfl⟩
      | pan p =>
        obtain ⟨v, rfl, hR⟩ := hm
        exact ⟨p, { st' with h := h2 }, joinC C' C2, v, rfl, hk, R'.back hR (by simp [okArg])⟩

/-- one operation -/
theorem eop_sound (hN : NoNum T) (hC : CallSound T CALL) (R : Rel B C st a w []) (h : eop T (AP CALL DFR) esc ap st o k kp) : OpOK T B o a w k kp := by
  cases hop : o.op with
  | assign x => exact move_ok R (.inr hop) h
  | move x => exact move_ok R (.inl hop) h
  | pick c x y => exact pick_ok R hop h
  | alloc t =>
    unfold eop at h
    rw [hop] at h
    simp only [] at h
    split at h
    · rename_i d z hd hz
      exact alloc_ok R hz hop h
    · exact h.elim
  | box t x =>
    unfold eop at h
    rw [hop] at h
    simp only [] at h
    split at h
    · split at h
      · rename_i d hd hok
        simp only [Bool.and_eq_true] at hok
        exact box_ok R hop hok.1 hok.2 h
      · exact h.elim
    · exact h.elim
  | load t x => exact load_ok R hop h
  | store t x v => exact store_ok R hop h
  | indexAddr t x i => exact indexAddr_ok R hop h
  | buildSlice t n ps => exact buildSlice_ok R hop h
  | slice t x lo hi mx => exact slice_ok R hop h
  | convert s d x => exact convert_ok R hop h
  | panic x => exact panic_ok R hop h
  | makeInterface t x => exact makeInterface_ok R hop h
  | makeFunc fn first captured =>
    cases fn with
    | func f => exact makeFunc_ok R hop h
    | _ =>
      unfold eop at h; rw [hop] at h
      exact struct_fall R (by intro cs b; rw [hop]; simp) h
  | defer c => exact defer_ok R hop h
  | call c => exact call_ok hN hC R hop h
  | select cs b =>
    unfold eop at h
    rw [hop] at h
    exact h.elim
  | _ =>
    unfold eop at h; rw [hop] at h
    exact struct_fall R (by intro cs b; rw [hop]; simp) h
end
end Go.AE
end

section
namespace Go.AE
open Go
set_option linter.unusedSimpArgs false
set_option linter.unusedVariables false
section
variable {T : Program} {B : Base} {C : Ctx} {st : St} {a : Act} {w w' : World} {o : Oper}
variable {CALL : FuncId → List D → List Blk → (Res → List Blk → Prop) → Prop} {DFR : List (FuncId × List D) → Ex → List Blk → (Ex → List Blk → Prop) → Prop} {esc ap : List Tmp}

theorem Oper.wp_mono2 {P : Program} {K K' : Act → World → Prop} {Q Q' : Exit → Act → World → Prop} (h : ∀ a w, K a w → K' a w) (hQ : ∀ e a w, Q e a w → Q' e a w)
    (hh : o.wp P a w K Q) : o.wp P a w K' Q' := by
  unfold Oper.wp at *
  generalize (execOp a.eval o).run P w = r at *
  have hl : LetsOut Q → LetsOut Q' := fun ⟨a, w, q⟩ => ⟨a, w, hQ _ _ _ q⟩
  cases r with
  | ok n w' =>
    cases n <;> simp only [Oper.upon] at hh ⊢ <;> first | exact h _ _ hh | exact hh | skip
    · refine hh.mono fun e w2 he => ?_
      cases e with
      | returned v => exact h _ _ he
      | panicked ch => exact hQ _ _ _ he
      | outgrown => exact hl he
    · exact hh.mono fun v w2 he => h _ _ he
  | halt x w' =>
    cases x <;> simp only [Oper.upon] at hh ⊢ <;> first | exact hQ _ _ _ hh | exact hh

def ExR (B : Base) (C : Ctx) (x : Ex) (st : St) (e : Exit) (a : Act) (w : World) : Prop :=
  match x with
  | .normal => e = .normal ∧ Rel B C st a w []
  | .exit id => e = .exit id ∧ Rel B C st a w []
  | .ret => e = .ret ∧ Rel B C st a w []
  | .pan p => ∃ v, e = .panic [{ v, recovered := false }] ∧ Rel B C st a w [(.p p, v)]

def QC (B : Base) (k : Ex → St → Prop) : Exit → Act → World → Prop := fun e a w => ∃ x st C, k x st ∧ ExR B C x st e a w

theorem yielded_rel {ops : Array Oper} (R : Rel B C st a w []) {j : Nat} {d : Tmp} {b : Bool} (hj : (getL ops.toList j).bind (·.dst) = some d) (hd : getL st.r d = some (.p (.sc (.bool b)))) :
    yielded ops a.tmps j = some b := by
  have hlt : d < a.tmps.size := by rw [R.len]; exact getL_lt hd
  have hv : a.tmps[d]? = some a.tmps[d] := by simp [hlt]
  have hr := R.regs d _ _ hd hv
  simp only [RepD, RepP] at hr
  have hj' : (ops[j]?).bind (·.dst) = some d := by rw [getL_eq] at hj; simpa using hj
  simp only [yielded, hj', Option.bind_some, hv, hr.1]

theorem yielded_und {ops : Array Oper} (R : Rel B C st a w []) {j : Nat} {d : Tmp} (hj : (getL ops.toList j).bind (·.dst) = some d) (hd : getL st.r d = some (.tup [])) :
    yielded ops a.tmps j = none := by
  have hlt : d < a.tmps.size := by rw [R.len]; exact getL_lt hd
  have hv : a.tmps[d]? = some a.tmps[d] := by simp [hlt]
  have hr := R.regs d _ _ hd hv
  simp only [RepD] at hr
  obtain ⟨vs, hr, _⟩ := hr
  have hj' : (ops[j]?).bind (·.dst) = some d := by rw [getL_eq] at hj; simpa using hj
  simp only [yielded, hj', Option.bind_some, hv, hr]

theorem rep_undef (C : Ctx) : RepD C (.tup []) undef := by simp only [RepD]; exact ⟨#[], rfl, rfl⟩

/-- an operation under its guard -/
theorem wanted_ok {ops : Array Oper} (R : Rel B C st a w []) {yes no : Prop} (h : wantedD (AP CALL DFR) ops.toList st o yes no) :
    (Region.wanted o (yielded ops a.tmps) = true ∧ yes) ∨ (Region.wanted o (yielded ops a.tmps) = false ∧ no) := by
  unfold wantedD at h
  split at h
  · rename_i hg
    exact .inl ⟨by simp [Region.wanted, hg], h⟩
  · rename_i j want hg
    split at h
    · rename_i d hj
      split at h
      · rename_i b hd
        have hy := yielded_rel R hj hd
        split at h
        · rename_i hw
          rcases pbr_elim h with ⟨rfl, h'⟩ | ⟨rfl, h'⟩
          · exact .inl ⟨by simp [Region.wanted, hg, hy, hw], h'⟩
          · exact .inr ⟨by simp [Region.wanted, hg, hy, hw], h'⟩
        · rename_i hw
          have hw : want = false := by simpa using hw
          rcases pbr_elim h with ⟨rfl, h'⟩ | ⟨rfl, h'⟩
          · exact .inr ⟨by simp [Region.wanted, hg, hy, hw], h'⟩
          · exact .inl ⟨by simp [Region.wanted, hg, hy, hw], h'⟩
      · rename_i hd
        have hy := yielded_und R hj hd
        exact .inr ⟨by simp [Region.wanted, hg, hy], h⟩
      · exact h.elim
    · exact h.elim

theorem eops_sound (hN : NoNum T) (hC : CallSound T CALL) {ops : Array Oper} {k : Ex → St → Prop} : ∀ (n i : Nat) (C : Ctx) (st : St) (a : Act) (w : World), n + i = ops.size →
    eops T (AP CALL DFR) esc ap ops.toList (ops.toList.drop i) st k → Rel B C st a w [] → wpOps T ops (QC B k) ((List.range' i n)) a w
  | 0, i, C, st, a, w, hn, h, R => by
    rw [List.drop_eq_nil_of_le (by simp; omega)] at h
    simp only [List.range'_zero, wpOps]
    exact ⟨.normal, st, C, h, rfl, R⟩
  | n + 1, i, C, st, a, w, hn, h, R => by
    have hi : i < ops.size := by omega
    have hd : ops.toList.drop i = ops[i] :: ops.toList.drop (i + 1) := by
      rw [List.drop_eq_getElem_cons (by simpa using hi)]; simp
    rw [hd] at h
    simp only [eops] at h
    rw [List.range'_succ]
    simp only [wpOps, Array.getElem?_eq_getElem hi]
    rcases wanted_ok R h with ⟨hw, h'⟩ | ⟨hw, h'⟩
    · rw [if_pos hw]
      left
      have := eop_sound hN hC R h'
      refine Oper.wp_mono2 (fun a' w2 hk => ?_) (fun e a' w2 hq => ?_) this
      · obtain ⟨d, st', C', v, a0, hk, R', rfl⟩ := hk
        exact eops_sound hN hC n (i + 1) C' _ _ _ (by omega) hk R'.put
      · obtain ⟨p, st', C', v, rfl, hk, R'⟩ := hq
        exact ⟨.pan p, st', C', hk, v, rfl, R'⟩
    · rw [if_neg (by rw [hw]; simp)]
      exact eops_sound hN hC n (i + 1) C _ _ _ (by omega) h' (R.push (d := .tup []) (v := undef) rfl (rep_undef C)).put

/-- inside a loop, ahead of a round -/
def LI (P : Program) (c : Code) (Q : Exit → Act → World → Prop) (a : Act) (w : World) : Prop :=
  ∀ (b : Frame) (k : List Item) (cs : List Frame), ∃ e a' w', Q e a' w' ∧ Arrives P (lone (b.at a (.code c :: .inLoop c :: k)) cs w) b k cs e a' w'

theorem LI.round {P : Program} {Q : Exit → Act → World → Prop} {c : Code} (h : c.wp P (Exit.then (LI P c Q) Q) a w) : LI P c Q a w := by
  intro b k cs
  obtain ⟨e, a₁, w₁, hq, harr⟩ := h b (.inLoop c :: k) cs
  cases e with
  | normal =>
    obtain ⟨e₂, a₂, w₂, hq₂, harr₂⟩ := hq b k cs
    exact ⟨e₂, a₂, w₂, hq₂, .of_steps (Steps.trans harr (.one step_inLoop)) harr₂⟩
  | exit id => exact ⟨_, a₁, w₁, hq, .pass (x := .inLoop c) rfl (fun _ _ => .inl (by simp)) harr⟩
  | goto l => exact ⟨_, a₁, w₁, hq, .pass (x := .inLoop c) rfl (fun _ _ => .inl (by simp)) harr⟩
  | ret => exact ⟨_, a₁, w₁, hq, .pass (x := .inLoop c) rfl (fun _ _ => .inl (by simp)) harr⟩
  | panic ch => exact ⟨_, a₁, w₁, hq, .pass (x := .inLoop c) rfl (fun _ _ => .inl (by simp)) harr⟩
  | outgrown => exact ⟨_, a₁, w₁, hq, .pass (x := .inLoop c) rfl (fun _ _ => .inl (by simp)) harr⟩
theorem LI.wp {P : Program} {Q : Exit → Act → World → Prop} {c : Code} (h : LI P c Q a w) : (Code.loop c).wp P Q a w := by
  intro b k cs
  obtain ⟨e, a', w', hq, harr⟩ := h b k cs
  exact ⟨e, a', w', hq, .of_steps (.one step_loop) harr⟩

/-- a region whose order is open -/
def DrawSound (T : Program) (CALL : FuncId → List D → List Blk → (Res → List Blk → Prop) → Prop) (DFR : List (FuncId × List D) → Ex → List Blk → (Ex → List Blk → Prop) → Prop) : Prop :=
  ∀ (B : Base) (C : Ctx) (st : St) (a : Act) (w : World) (esc : List Tmp) (id : Nat) (ops : Array Oper) (k : Ex → St → Prop),
    eregion T (AP CALL DFR) esc ops.toList st k → Rel B C st a w [] → (Code.region id ops true).wp T (QC B k) a w

/-- code -/
theorem ecode_sound (hN : NoNum T) (hC : CallSound T CALL) (hD : DrawSound T CALL DFR) : ∀ (c : Code) (k : Ex → St → Prop) (C : Ctx) (st : St) (a : Act) (w : World),
    ecode T (AP CALL DFR) esc c st k → Rel B C st a w [] → c.wp T (QC B k) a w
  | .skip, k, C, st, a, w, h, R => wp_skip ⟨.normal, st, C, h, rfl, R⟩
  | .region id ops draw, k, C, st, a, w, h, R => by
    simp only [ecode] at h
    cases draw with
    | false =>
      refine wp_region ?_
      have := eops_sound (ops := ops) (esc := esc) (ap := apSrc ops.toList) hN hC ops.size 0 C st a w (by omega) (by simpa using h) R
      rw [List.range_eq_range']; exact this
    | true => exact hD B C st a w esc id ops k (by simpa using h) R
  | .seq x y, k, C, st, a, w, h, R => by
    simp only [ecode] at h
    refine wp_seq (wp_mono (ecode_sound hN hC hD x _ C st a w h R) fun e a' w' hq => ?_)
    obtain ⟨ex, st', C', hk, hx⟩ := hq
    cases ex with
    | normal =>
      obtain ⟨rfl, R'⟩ := hx
      exact ecode_sound hN hC hD y k C' st' a' w' hk R'
    | exit id => obtain ⟨rfl, R'⟩ := hx; exact ⟨.exit id, st', C', hk, rfl, R'⟩
    | ret => obtain ⟨rfl, R'⟩ := hx; exact ⟨.ret, st', C', hk, rfl, R'⟩
    | pan p => obtain ⟨v, rfl, R'⟩ := hx; exact ⟨.pan p, st', C', hk, v, rfl, R'⟩
  | .cond c x y, k, C, st, a, w, h, R => by
    simp only [ecode] at h
    split at h
    · rename_i b hb
      have hc := R.opd c
      rw [hb] at hc
      simp only [RepD, RepP] at hc
      rcases pbr_elim h with ⟨rfl, h'⟩ | ⟨rfl, h'⟩
      · exact wp_cond_true hc.1 (ecode_sound hN hC hD x k C st a w h' R)
      · exact wp_cond_false hc.1 (ecode_sound hN hC hD y k C st a w h' R)
    · exact h.elim
  | .block id c, k, C, st, a, w, h, R => by
    simp only [ecode] at h
    refine wp_block (wp_mono (ecode_sound hN hC hD c _ C st a w h R) fun e a' w' hq => ?_)
    obtain ⟨ex, st', C', hk, hx⟩ := hq
    cases ex with
    | normal => obtain ⟨rfl, R'⟩ := hx; exact ⟨.normal, st', C', hk, rfl, R'⟩
    | exit id' =>
      obtain ⟨rfl, R'⟩ := hx
      simp only [Exit.inBlock]
      by_cases e : id' = id
      · subst e; simp only [beq_self_eq_true, if_true] at hk ⊢; exact ⟨.normal, st', C', hk, rfl, R'⟩
      · have : (id' == id) = false := by simpa using e
        simp only [this, Bool.false_eq_true, if_false] at hk
        rw [if_neg e]; exact ⟨.exit id', st', C', hk, rfl, R'⟩
    | ret => obtain ⟨rfl, R'⟩ := hx; exact ⟨.ret, st', C', hk, rfl, R'⟩
    | pan p => obtain ⟨v, rfl, R'⟩ := hx; exact ⟨.pan p, st', C', hk, v, rfl, R'⟩
  | .loop c, k, C, st, a, w, h, R => by
    simp only [ecode] at h
    have key : ∀ C a w, Rel B C st a w [] → LI T c (QC B k) a w := by
      refine h (fun st => ∀ C a w, Rel B C st a w [] → LI T c (QC B k) a w) fun s hs C a w R => ?_
      refine LI.round (wp_mono (ecode_sound hN hC hD c _ C s a w hs R) fun e a' w' hq => ?_)
      obtain ⟨ex, st', C', hk, hx⟩ := hq
      cases ex with
      | normal => obtain ⟨rfl, R'⟩ := hx; exact hk C' a' w' R'
      | exit id => obtain ⟨rfl, R'⟩ := hx; exact ⟨.exit id, st', C', hk, rfl, R'⟩
      | ret => obtain ⟨rfl, R'⟩ := hx; exact ⟨.ret, st', C', hk, rfl, R'⟩
      | pan p => obtain ⟨v, rfl, R'⟩ := hx; exact ⟨.pan p, st', C', hk, v, rfl, R'⟩
    exact LI.wp (key C a w R)
  | .exit id, k, C, st, a, w, h, R => wp_exit ⟨.exit id, st, C, h, rfl, R⟩
  | .ret, k, C, st, a, w, h, R => wp_ret ⟨.ret, st, C, h, rfl, R⟩
  | .rangeFunc .., k, C, st, a, w, h, R => by simp only [ecode] at h; exact h.elim
  | .scope _, k, C, st, a, w, h, R => by simp only [ecode] at h; exact h.elim
  | .label _, k, C, st, a, w, h, R => by simp only [ecode] at h; exact h.elim
  | .goto _, k, C, st, a, w, h, R => by simp only [ecode] at h; exact h.elim
  | .refuse _, k, C, st, a, w, h, R => by simp only [ecode] at h; exact h.elim
end
end Go.AE
end

section
namespace Go.AE
open Go
set_option linter.unusedSimpArgs false
set_option linter.unusedVariables false
section
variable {T : Program} {B : Base} {C : Ctx} {st : St} {a : Act} {w w' : World} {o : Oper}
variable {CALL : FuncId → List D → List Blk → (Res → List Blk → Prop) → Prop} {DFR : List (FuncId × List D) → Ex → List Blk → (Ex → List Blk → Prop) → Prop} {esc ap : List Tmp}

theorem getL_replicate {α : Type} (n : Nat) (x : α) (i : Nat) (y : α) (h : getL (List.replicate n x) i = some y) : y = x := by
  rw [getL_eq, List.getElem?_replicate] at h
  split at h
  · simpa using h.symm
  · simp at h

theorem Rel.start {h : List Blk} {ds : List D} {vs : List Value} (fn : Func) (H : HRel C w h) (hr : RepDs C ds vs) (hl : ∀ i d, getL ds i = some d → loose d = true) :
    Rel (baseOf C w h) C (startSt fn ds h) { tmps := vs.toArray ++ Array.replicate (fn.ntmps - vs.toArray.size) undef, defers := [] } w [] := by
  have hlen := hr.length
  have hbx : ∀ s x, getL (startSt fn ds h).b s = some x → x = .none := fun s x e => getL_replicate _ _ _ _ e
  have hcb : ∀ s, cellsOf (startSt fn ds h) (.box s) = none := by
    intro s
    simp only [cellsOf]
    split
    · rename_i e; have := hbx _ _ e; simp at this
    · rfl
  have hlb : ∀ s, liveK (startSt fn ds h) (.box s) = false := by
    intro s
    simp only [liveK]
    split
    · rename_i e; have := hbx _ _ e; simp at this
    · rfl
  have hloose : ∀ i d v, atPos C (startSt fn ds h) (vs.toArray ++ Array.replicate (fn.ntmps - vs.toArray.size) undef) w [] (.reg i) = some (d, v) → RepD C d v ∧ loose d = true := by
    intro i d v e
    simp only [atPos, both_some, startSt] at e
    by_cases hi : i < ds.length
    · rw [getL_append_left hi, Array.getElem?_append_left (by simp; omega)] at e
      obtain ⟨u, e1, e2⟩ := hr.get e.1
      have e3 := e.2
      simp only [List.getElem?_toArray, e1, Option.some.injEq] at e3
      subst e3
      exact ⟨e2, hl i d e.1⟩
    · have : d = .dead := by
        have e1 := e.1
        rw [getL_eq, List.getElem?_append_right (by omega), ← getL_eq] at e1
        exact getL_replicate _ _ _ _ e1
      subst this
      exact ⟨by simp [RepD], rfl⟩
  have hx : ∀ p n, xb C (startSt fn ds h) (vs.toArray ++ Array.replicate (fn.ntmps - vs.toArray.size) undef) w [] p = some n → xb C (stH h) #[] w [] p = some n := by
    intro p n e
    cases p with
    | reg i =>
      simp only [xb, Option.bind_eq_some_iff] at e
      obtain ⟨⟨d, v⟩, h1, h2⟩ := e
      rw [tailBlk_loose (hloose i d v h1).2] at h2; cases h2
    | ex j => simp [xb, atPos, getL] at e
    | cell k j => cases k with
      | box s => simp [xb, atPos, hcb, both] at e
      | blk id => exact e
    | blk k => cases k with
      | box s => simp [xb, hlb] at e
      | blk id => exact e
  refine { len := by simp [startSt, hlen], regs := fun i d v h1 h2 => (hloose i d v (by simp only [atPos, both_some]; exact ⟨h1, h2⟩)).1, exs := by intro i q e; simp [getL] at e, cells := ?_,
           al := ?_, seals := ?_, frzs := H.frzs, nh := H.nh, hb := H.hb, tails := ?_, inj := fun p q n h1 h2 => H.inj p q n (hx p n h1) (hx q n h2), bound := fun p n h1 => H.bound p n (hx p n h1), empty := ?_,
           sub := H.sub, frm := H.frm, defs := rfl, defr := by intro i q d e; simp [startSt, getL] at e, maps := H.maps }
  · intro k ds' j d h1 h2
    cases k with
    | box s => rw [hcb] at h1; cases h1
    | blk id => exact H.cells (.blk id) ds' j d h1 h2
  · intro s
    rw [H.al s]
    have : boxed (startSt fn ds h) s = false := by
      simp only [boxed]
      split
      · rename_i e; have := hbx _ _ e; simp at this
      · rename_i e; have := hbx _ _ e; simp at this
      · rfl
    rw [this]
    simp [boxed, stH, getL]
  · intro s ps e
    have := hbx _ _ e; simp at this
  · intro p d v e
    cases p with
    | reg i => exact TailOK_loose (hloose i d v e).2
    | ex j => simp [atPos, getL] at e
    | cell k j => cases k with
      | box s => simp [atPos, hcb, both] at e
      | blk id => exact H.tails (.cell (.blk id) j) d v e
    | blk k => simp [atPos] at e
  · intro k e
    cases k with
    | box s => rw [hlb] at e; cases e
    | blk id => exact H.empty (.blk id) e

theorem Rel.finish {q : D × Value} (R : Rel B C st a w [q]) (hq : okArg q.1 = true) : Rel B (noBox C) (stH st.h) actE w [q] := by
  have hx : ∀ p n, xb (noBox C) (stH st.h) #[] w [q] p = some n → xb C st a.tmps w [q] p = some n := by
    intro p n e
    cases p with
    | reg i => simp [xb, atPos, stH, getL, both] at e
    | ex j => exact e
    | cell k j => cases k with
      | box s => simp [xb, atPos, stH, getL, both, cellsOf] at e
      | blk id => exact e
    | blk k => cases k with
      | box s => simp [xb, liveK, stH, getL] at e
      | blk id => exact e
  refine { len := rfl, regs := by intro i d v e; simp [stH, getL] at e, exs := ?_, cells := ?_, al := by intro s; simp [noBox, boxed, stH, getL],
           seals := by intro s ps e; simp [stH, getL] at e, frzs := R.frzs, nh := R.nh, hb := R.hb, tails := ?_, inj := fun p q' n h1 h2 => R.inj p q' n (hx p n h1) (hx q' n h2),
           bound := fun p n h1 => R.bound p n (hx p n h1), empty := ?_, sub := R.sub, frm := R.frm, defs := rfl, defr := by intro i q' d e; simp [stH, getL] at e, maps := ?_ }
  · intro i q' e
    cases i with
    | zero => simp only [getL, Option.some.injEq] at e; subst e; exact RepD.mono noBox_le _ _ (okArg_lpD hq) (R.exs 0 q rfl)
    | succ i => simp [getL] at e
  · intro k ds j d h1 h2
    obtain ⟨id, rfl⟩ := stH_cells h1
    obtain ⟨h3, v, h4, h5, h6, h7⟩ := R.cells (.blk id) ds j d h1 h2
    exact ⟨h3, v, h4, h5, RepD.mono noBox_le d v (okArg_lpD h3) h6, h7⟩
  · intro p d v e
    cases p with
    | reg i => simp [atPos, stH, getL, both] at e
    | ex j => exact R.tails (.ex j) d v e
    | cell k j => cases k with
      | box s => simp [atPos, stH, getL, both, cellsOf] at e
      | blk id => exact R.tails (.cell (.blk id) j) d v e
    | blk k => simp [atPos] at e
  · intro k e
    obtain ⟨id, rfl⟩ := stH_live e
    exact R.empty (.blk id) e
  · intro id es clock e
    obtain ⟨ms, h1, h2⟩ := R.maps id es clock e
    exact ⟨ms, h1, h2.mono noBox_le⟩

/-- a result variable -/
def resFn (tm : Array Value) : ResultVar → Sem Value := fun
  | .tmp t => pure (tm.getD t undef)
  | .cell b t => do loadVar t (← asAddr (tm.getD b undef))

theorem res_one (R : Rel B C st a w []) {r : ResultVar} {d : D} (h : resD T st [r] = some [d]) :
    ∃ v st' , (resFn a.tmps r).run T w = .ok v w ∧ Rel B C st' a w [(d, v)] ∧ st'.h = st.h ∧ st'.df = st.df := by
  cases r with
  | tmp t =>
    simp only [resD] at h
    split at h
    · rename_i d' hd
      simp only [Option.map_some, Option.some.injEq, List.cons.injEq, and_true] at h
      subst h
      have := R.give t
      have ho : opdD st.r (.tmp t) = d' := by simp [opdD, hd]
      rw [ho] at this
      refine ⟨a.eval (.tmp t), giveR st t, ?_, this, rfl, rfl⟩
      simp [resFn, Act.eval]
    · simp at h
  | cell b t =>
    simp only [resD] at h
    split at h
    · simp at h
    · rename_i hun
      obtain ⟨td, hu⟩ := underlying_some hun
      split at h
      · rename_i d' hd
        simp only [Option.map_some, Option.some.injEq, List.cons.injEq, and_true] at h
        subst h
        rw [Option.bind_eq_some_iff] at hd
        obtain ⟨p, hp, hl⟩ := hd
        have hb : b < a.tmps.size := by rw [R.len]; exact getL_lt hp
        have hv : a.tmps[b]? = some a.tmps[b] := by simp [hb]
        have hr := R.regs b p _ hp hv
        obtain ⟨v, h1, h2, h3⟩ := loadD_ok (T := T) R hu hr hl
        obtain ⟨ad, had⟩ : ∃ ad, a.tmps[b] = .pointer (some ad) := by
          cases p with
          | lp s off => simp only [RepD] at hr; exact ⟨_, hr.2⟩
          | ref id off => simp only [RepD] at hr; exact ⟨_, hr.2⟩
          | _ => simp [loadD] at hl
        refine ⟨v, st, ?_, R.push h3 h2, rfl, rfl⟩
        have hg : a.tmps.getD b undef = .pointer (some ad) := by rw [Array.getD_eq_getD_getElem?, hv, had]; rfl
        rw [had] at h1
        simp only [Instr.loadAt, Instr.sureAddr, Sem.run_bind, Sem.run_pure, Result.andThen_ok] at h1
        simp only [resFn, hg, asAddr, Sem.run_bind, Sem.run_pure, Result.andThen_ok, h1]
      · simp at h

theorem resD_cons {r : ResultVar} {rs : List ResultVar} {ds : List D} (h : resD T st (r :: rs) = some ds) : ∃ d ds', ds = d :: ds' ∧ resD T st [r] = some [d] ∧ resD T st rs = some ds' := by
  cases r with
  | tmp t =>
    simp only [resD] at h ⊢
    split at h
    · rename_i d hd
      rw [Option.map_eq_some_iff] at h
      obtain ⟨ds', h1, rfl⟩ := h
      exact ⟨d, ds', rfl, by simp, h1⟩
    · simp at h
  | cell b t =>
    simp only [resD] at h ⊢
    split at h
    · simp at h
    · rename_i hu
      split at h
      · rename_i d hd
        rw [Option.map_eq_some_iff] at h
        obtain ⟨ds', h1, rfl⟩ := h
        exact ⟨d, ds', rfl, by rw [if_neg hu]; simp, h1⟩
      · simp at h

theorem res_many (R : Rel B C st a w []) : ∀ {rs : List ResultVar} {ds : List D}, resD T st rs = some ds →
    ∃ vs, (rs.mapM (resFn a.tmps)).run T w = .ok vs w ∧ RepDs C ds vs ∧ vs.length = rs.length
  | [], ds, h => by simp only [resD, Option.some.injEq] at h; subst h; exact ⟨[], rfl, by simp [RepDs], rfl⟩
  | r :: rs, ds, h => by
    obtain ⟨d, ds', rfl, h1, h2⟩ := resD_cons h
    obtain ⟨v, st', e1, R', _⟩ := res_one R h1
    obtain ⟨vs, e2, e3, e4⟩ := res_many R h2
    refine ⟨v :: vs, by simp [List.mapM_cons, e1, e2, Result.andThen], ?_, by simp [e4]⟩
    simp only [RepDs]
    exact ⟨v, vs, rfl, R'.exs 0 (d, v) rfl, e3⟩

def dfr0 : List (FuncId × List D) → Ex → List Blk → (Ex → List Blk → Prop) → Prop := fun df x h k => df = [] ∧ k x h

theorem run_results {fn : Func} {tm : Array Value} {vs : List Value} (h : (fn.results.toList.mapM (resFn tm)).run T w = .ok vs w) :
    (results fn tm).run T w = .ok (if h : vs.length = 1 then vs[0] else .tuple vs.toArray) w := by
  unfold results
  have e : (fn.results.mapM (resFn tm)).run T w = .ok vs.toArray w := by
    rw [Array.mapM_eq_mapM_toList]
    simp [h]
  simp only [Sem.run_bind]
  have e' : ∀ g : ResultVar → Sem Value, g = resFn tm → (fn.results.mapM g).run T w = .ok vs.toArray w := fun g hg => by rw [hg]; exact e
  rw [e' _ (by funext r; cases r <;> rfl)]
  simp

/-- a function -/
theorem efn_sound {es : List Tmp} (hN : NoNum T) (hC : CallSound T CALL) (hD : DrawSound T CALL dfr0) {f : FuncId} {fn : Func} (hf : T.funcs[f]? = some fn) {ds : List D} {h : List Blk} {k : Res → List Blk → Prop}
    (he : efn T (AP CALL dfr0) es fn ds h k) : CallOK T f ds h k := by
  intro C w vs hr hok hlo H
  unfold efn at he
  split at he
  · exact he.elim
  rename_i body hbody
  have R0 := Rel.start fn H hr hlo
  refine calls_of_wp hf hbody (wp_mono (ecode_sound hN hC hD body _ C _ _ w he R0) fun e a' w' hq => ?_)
  obtain ⟨x, st', C', hk, hx⟩ := hq
  obtain ⟨hdf, hk⟩ := hk
  have ret : ∀ (R : Rel (baseOf C w h) C' st' a' w' []), (match resD T { st' with h := st'.h } fn.results.toList with
        | some ds => match ds with
          | [d] => if okArg d then k (.ret d) st'.h else False
          | ds => if okArgs ds then k (.ret (.tup (ds.map down1))) st'.h else False
        | none => False) → a'.defers = [] ∧ ∃ v, (results fn a'.tmps).run T w' = .ok v w' ∧ ∃ C'' r h', k r h' ∧ HPost C w h C'' w' h' r (.returned v) := by
    intro R hk
    have hdd : a'.defers = [] := by have := R.defs; rw [hdf] at this; exact List.length_eq_zero_iff.1 this.symm
    refine ⟨hdd, ?_⟩
    split at hk
    case h_2 => exact hk.elim
    rename_i ds' hres
    have hres' : resD T st' fn.results.toList = some ds' := hres
    split at hk
    · rename_i d
      split at hk
      case isFalse => exact hk.elim
      rename_i hokd
      obtain ⟨vs', e1, e2, e3⟩ := res_many R hres'
      have hl := e2.length
      -- one result
      obtain ⟨r, hrr⟩ : ∃ r, fn.results.toList = [r] := by
        cases hq : fn.results.toList with
        | nil => rw [hq] at e3; simp at e3; rw [e3] at hl; simp at hl
        | cons r rs => cases rs with
          | nil => exact ⟨r, rfl⟩
          | cons r2 rs2 => rw [hq] at e3; simp at e3; rw [e3] at hl; simp at hl
      rw [hrr] at hres' e1
      obtain ⟨v, st2, q1, q2, q3, q4⟩ := res_one R hres'
      have : vs' = [v] := by simp [List.mapM_cons, q1, Result.andThen] at e1; exact e1.symm
      subst this
      refine ⟨v, by rw [run_results (by rw [hrr]; exact e1)]; simp, noBox C', .ret d, st'.h, hk, v, rfl, hokd, ?_⟩
      have := q2.finish hokd
      rw [q3] at this; exact this
    · rename_i hne
      split at hk
      case isFalse => exact hk.elim
      rename_i hoks
      obtain ⟨vs', e1, e2, e3⟩ := res_many R hres'
      have hl := e2.length
      have h1 : vs'.length ≠ 1 := by
        intro e
        rw [e] at hl
        match ds', hl, hne with
        | [d], _, hne => exact hne d rfl
      refine ⟨.tuple vs'.toArray, by rw [run_results e1, dif_neg h1], noBox C', .ret (.tup (ds'.map down1)), st'.h, hk, _, rfl, ?_, ?_⟩
      · simp only [okArg]; exact okArgs_down1 hoks
      · have := (R.push (d := .tup (ds'.map down1)) (v := .tuple vs'.toArray) rfl (by simp only [RepD]; exact ⟨_, rfl, by simpa using e2.down1⟩)).finish (by simp only [okArg]; exact okArgs_down1 hoks)
        exact this
  cases x with
  | normal =>
    obtain ⟨rfl, R⟩ := hx
    exact ret R hk
  | ret =>
    obtain ⟨rfl, R⟩ := hx
    exact ret R hk
  | exit id => exact hk.elim
  | pan p =>
    obtain ⟨v, rfl, R⟩ := hx
    have hdd : a'.defers = [] := by have := R.defs; rw [hdf] at this; exact List.length_eq_zero_iff.1 this.symm
    exact ⟨hdd, noBox C', .pan p, st'.h, hk, v, rfl, R.finish (by simp [okArg])⟩
end
end Go.AE
end

section
namespace Go.AE
open Go
set_option linter.unusedSimpArgs false
set_option linter.unusedVariables false
section
variable {T : Program} {B : Base} {C : Ctx} {st s : St} {a : Act} {w w' : World} {o : Oper}
variable {CALL : FuncId → List D → List Blk → (Res → List Blk → Prop) → Prop} {DFR : List (FuncId × List D) → Ex → List Blk → (Ex → List Blk → Prop) → Prop} {esc ap : List Tmp}

def Agree (o : Oper) (r r' : List D) : Prop := ∀ x ∈ o.op.operands, opdD r x = opdD r' x

theorem valsOf_congr {r r' : List D} : ∀ {xs : List Operand}, (∀ x ∈ xs, opdD r x = opdD r' x) → valsOf r xs = valsOf r' xs
  | [], _ => rfl
  | x :: xs, h => by
    simp only [valsOf]
    rw [h x (by simp), valsOf_congr fun y hy => h y (by simp [hy])]

theorem scalarOp_congr {r r' : List D} (hs : ∀ cs b, o.op ≠ .select cs b) (h : Agree o r r') : scalarOp T r o = scalarOp T r' o := by
  unfold scalarOp
  rw [valsOf_congr (r := r) (r' := r') fun x hx => h x (by simpa using hx), execOp_congr (ρ := valOf r) (ρ' := valOf r') o hs fun x hx => by simp [valOf, h x hx]]

theorem structOp_congr {r r' : List D} (h : Agree o r r') : structOp T r o = structOp T r' o := by
  obtain ⟨dst, op, type, pos, after, guard⟩ := o
  unfold Agree at h
  simp only at h
  cases op <;> (try rfl) <;> simp only [Op.operands] at h <;> (try simp only [structOp])
  case fieldAddr s x f => rw [h x (by simp)]
  case field s x f => rw [h x (by simp)]
  case extract x i => rw [h x (by simp)]
  case nilCheck x => rw [h x (by simp)]
  case build t ps =>
    have : (ps.toList.map fun (p : Nat × Operand) => (p.1, downD (opdD r p.2))) = (ps.toList.map fun (p : Nat × Operand) => (p.1, downD (opdD r' p.2))) :=
      List.map_congr_left fun p hp => by rw [h p.2 (by simp only [List.mem_toArray, List.mem_map]; exact ⟨p, hp, rfl⟩)]
    rw [this]
  case binOp b t x y u => cases b <;> (try rfl) <;> simp only [structOp] <;> rw [h x (by simp), h y (by simp)]
  case call c =>
    obtain ⟨callee, args, at'⟩ := c
    cases callee <;> try rfl
    rename_i b
    cases b <;> try rfl
    simp only [structOp]
    split
    · rename_i x t hx ht
      have hm : x ∈ args := Array.mem_of_getElem? hx
      rw [h x (by simp [Call.operands, hm])]
    · rfl

def Det (F : (D → Prop) → Prop) : Prop := ∀ K, F K → ∃ v, K v ∧ F (· = v)

theorem Det.val (v : D) : Det fun K => K v := fun K h => ⟨v, h, rfl⟩
theorem Det.no : Det fun _ => False := fun K h => h.elim
theorem Det.pbr {b : Bool} {F G : (D → Prop) → Prop} (h : Det F) (g : Det G) : Det fun K => pbr b (F K) (G K) := fun K hk => by
  rcases pbr_elim hk with ⟨rfl, h'⟩ | ⟨rfl, h'⟩
  · obtain ⟨v, h1, h2⟩ := h K h'; exact ⟨v, h1, pbr_true h2⟩
  · obtain ⟨v, h1, h2⟩ := g K h'; exact ⟨v, h1, pbr_false h2⟩
theorem Det.preq {c : Prop} {F : (D → Prop) → Prop} (h : Det F) : Det fun K => preq c (F K) := fun K hk => by
  obtain ⟨hc, h'⟩ := preq_elim hk
  obtain ⟨v, h1, h2⟩ := h K h'; exact ⟨v, h1, preq_mk hc h2⟩
theorem Det.prow {rows : List (List P)} {i : Nat} {F : List P → (D → Prop) → Prop} (h : ∀ r, Det (F r)) : Det fun K => prow rows i (fun r => F r K) := fun K hk => by
  obtain ⟨r, hr, h'⟩ := prow_elim hk
  obtain ⟨v, h1, h2⟩ := h r K h'; exact ⟨v, h1, prow_mk r hr h2⟩

theorem CD_opt {k : D → Prop} {x : Option D} : CD (AP CALL DFR) k x = (match x with | some d => k d | none => False) := by cases x <;> rfl
theorem optR_opt {α : Type} {k : α → Prop} {x : Option α} : optR (AP CALL DFR) k x = (match x with | some d => k d | none => False) := by cases x <;> rfl

theorem Det.CD (x : Option D) : Det fun K => CD (AP CALL DFR) K x := by
  cases x with
  | none => exact Det.no
  | some d => exact Det.val d
theorem Det.optR {α : Type} {F : α → (D → Prop) → Prop} (h : ∀ a, Det (F a)) (x : Option α) : Det fun K => optR (AP CALL DFR) (fun a => F a K) x := by
  cases x with
  | none => exact Det.no
  | some d => exact h d

/-- what a neutral operation comes to -/
def valF (T : Program) (CALL : FuncId → List D → List Blk → (Res → List Blk → Prop) → Prop) (DFR : List (FuncId × List D) → Ex → List Blk → (Ex → List Blk → Prop) → Prop) (esc ap : List Tmp) (st : St) (o : Oper) (K : D → Prop) : Prop :=
  eop T (AP CALL DFR) esc ap st o (fun d _ => K d) (fun _ _ => False)

/-- a load's cell is the same in both -/
def MemAgree (T : Program) (o : Oper) (s st : St) : Prop := ∀ t x, o.op = .load t x → loadD T s t (opdD st.r x) = loadD T st t (opdD st.r x)

end
end Go.AE
end

section
namespace Go.AE
open Go
set_option linter.unusedSimpArgs false
set_option linter.unusedVariables false
section
variable {T : Program} {B : Base} {C : Ctx} {st s : St} {a : Act} {w w' : World} {o : Oper}
variable {CALL : FuncId → List D → List Blk → (Res → List Blk → Prop) → Prop} {DFR : List (FuncId × List D) → Ex → List Blk → (Ex → List Blk → Prop) → Prop} {esc ap : List Tmp}

theorem eop_congr (hn : neutral T ap o = true) (ha : Agree o s.r st.r) (hm : MemAgree T o s st) (k : D → St → Prop) (kp : P → St → Prop) :
    eop T (AP CALL DFR) esc ap s o k kp = valF T CALL DFR esc ap st o (fun d => k d s) := by
  have hss := structOp_congr (T := T) ha
  have hsc : ∀ (hs : ∀ cs b, o.op ≠ .select cs b), scalarOp T s.r o = scalarOp T st.r o := fun hs => scalarOp_congr hs ha
  obtain ⟨dst, op, type, pos, after, guard⟩ := o
  unfold Agree at ha
  unfold valF
  simp only at ha
  cases op <;> simp only [neutral] at hn <;> (try cases hn) <;> simp only [Op.operands] at ha
  case move x =>
    cases x with
    | tmp t =>
      have e := ha (.tmp t) (by simp)
      simp only [eop, e]
      cases dst with
      | none => rfl
      | some d => simp only [Bool.not_eq_true'] at hn; simp only [hn]; rfl
    | const v => rfl
    | global g => rfl
    | func f => rfl
  case pick c x y =>
    simp only [eop, ha c (by simp), ha x (by simp), ha y (by simp)]
  case load t x =>
    have hm := hm t x rfl
    simp only [eop, ha x (by simp)]
    split
    · rfl
    · split
      · rfl
      · have hia : inAp ap dst = false := by simpa using hn
        rw [hm]
        simp only [hia, Bool.false_and, Bool.false_eq_true, if_false]
  case indexAddr t x i =>
    simp only [eop, ha x (by simp), ha i (by simp)]
  case slice t x lo hi mx =>
    cases mx with
    | some m => simp at hn
    | none =>
      have hsc := hsc (by simp)
      have hx := ha x (by simp)
      have hlo : ∀ y, lo = some y → opdD s.r y = opdD st.r y := fun y e => ha y (by simp [e])
      have hhi : ∀ y, hi = some y → opdD s.r y = opdD st.r y := fun y e => ha y (by simp [e])
      simp only [eop, hx, hsc]
      cases lo with
      | none => cases hi with
        | none => simp only []; repeat' split
                  all_goals first | rfl | (cases scalarOp T st.r _ <;> rfl)
        | some y => simp only [hhi y rfl]; repeat' split
                    all_goals first | rfl | (cases scalarOp T st.r _ <;> rfl)
      | some z => cases hi with
        | none => simp only [hlo z rfl]; repeat' split
                  all_goals first | rfl | (cases scalarOp T st.r _ <;> rfl)
        | some y => simp only [hlo z rfl, hhi y rfl]; repeat' split
                    all_goals first | rfl | (cases scalarOp T st.r _ <;> rfl)
  case convert src dst' x =>
    have hsc := hsc (by simp)
    simp only [eop, ha x (by simp), hsc]
    repeat' split
    all_goals first | rfl | (cases bytesOf _ <;> rfl) | (cases scalarOp T st.r _ <;> rfl)
  case makeInterface t x =>
    simp only [eop, ha x (by simp)]
    repeat' split
    all_goals rfl
  case call c =>
    obtain ⟨callee, args, at'⟩ := c
    cases callee with
    | invoke r m => simp at hn
    | builtin b =>
      have hv : valsOf s.r args.toList = valsOf st.r args.toList := valsOf_congr fun x hx => ha x (by simp only [Array.mem_toList_iff] at hx; simp [Call.operands, hx])
      cases b <;> simp only at hn <;> (try cases hn) <;> simp only [eop, hss, hv]
      all_goals (repeat' split)
      all_goals rfl
    | value f =>
      cases f <;> simp only at hn <;> (try cases hn)
      rename_i f
      have hv : valsOf s.r args.toList = valsOf st.r args.toList := valsOf_congr fun x hx => ha x (by simp only [Array.mem_toList_iff] at hx; simp [Call.operands, hx])
      simp only [eop, calleeOf, opdD, hn, hv, if_true]
      repeat' split
      all_goals rfl
  all_goals (have hsc := hsc (by simp))
  all_goals (simp only [eop, hss, hsc])
  all_goals (split)
  all_goals first | rfl | (cases scalarOp T st.r _ <;> rfl)

theorem Det.ite {c : Prop} [Decidable c] {F G : (D → Prop) → Prop} (h : Det F) (g : Det G) : Det fun K => if c then F K else G K := by
  intro K hk
  split at hk
  · rename_i hc; obtain ⟨v, h1, h2⟩ := h K hk; exact ⟨v, h1, by show (if c then _ else _); rw [if_pos hc]; exact h2⟩
  · rename_i hc; obtain ⟨v, h1, h2⟩ := g K hk; exact ⟨v, h1, by show (if c then _ else _); rw [if_neg hc]; exact h2⟩

theorem Det.congr {F G : (D → Prop) → Prop} (h : Det G) (e : ∀ K, F K = G K) : Det F := by
  have : F = G := funext e
  rw [this]; exact h

/-- an operation's value is one -/
theorem valF_det (hn : neutral T ap o = true) : Det (valF T CALL DFR esc ap st o) := by
  obtain ⟨dst, op, type, pos, after, guard⟩ := o
  unfold valF
  cases op <;> simp only [neutral] at hn <;> (try cases hn)
  case move x =>
    cases x with
    | tmp t =>
      cases dst with
      | none => exact Det.val _
      | some d => simp only [Bool.not_eq_true'] at hn; simp only [eop, hn]; exact Det.val _
    | const v => exact Det.val _
    | global g => exact Det.val _
    | func f => exact Det.val _
  case pick c x y =>
    simp only [eop]
    split
    · exact Det.pbr (Det.val _) (Det.val _)
    · exact Det.no
  case load t x =>
    have hia : inAp ap dst = false := by simpa using hn
    simp only [eop, hia, Bool.false_and, Bool.false_eq_true, if_false]
    by_cases h1 : (T.underlying t).isNone = true
    · simp only [h1, if_true]; exact Det.no
    · rw [Bool.not_eq_true] at h1
      simp only [h1, Bool.false_eq_true, if_false]
      split
      · refine Det.prow fun r => ?_
        by_cases h2 : isAggT T t = true
        · simp only [h2, if_true]; exact Det.ite (Det.val _) Det.no
        · rw [Bool.not_eq_true] at h2; simp only [h2, Bool.false_eq_true, if_false]; exact Det.optR (fun x => Det.val _) _
      · exact Det.optR (fun x => Det.val _) _
  case indexAddr t x i =>
    simp only [eop]
    split
    · exact Det.ite (Det.preq (Det.val _)) Det.no
    · split
      · exact Det.ite (Det.preq (Det.val _)) Det.no
      · exact Det.ite (Det.preq (Det.val _)) Det.no
      · exact Det.no
  case slice t x lo hi mx =>
    cases mx with
    | some m => simp at hn
    | none =>
      simp only [eop]
      split
      · refine Det.ite Det.no ?_
        split
        · exact Det.preq (Det.val _)
        · exact Det.no
      · exact Det.CD _
  case convert src dst' x =>
    simp only [eop]
    split
    · split
      · exact Det.optR (fun x => Det.val _) _
      · exact Det.CD _
    · exact Det.val _
    · exact Det.CD _
  case makeInterface t x =>
    simp only [eop]
    refine Det.ite ?_ Det.no
    split
    · exact Det.val _
    · exact Det.val _
    · exact Det.no
  case call c =>
    obtain ⟨callee, args, at'⟩ := c
    cases callee with
    | invoke r m => simp at hn
    | builtin b =>
      cases b <;> simp only at hn <;> (try cases hn) <;> simp only [eop]
      all_goals (split)
      all_goals first | exact Det.val _ | skip
      all_goals (split)
      all_goals first | exact Det.no | skip
      all_goals (split)
      all_goals first | exact Det.no | exact Det.ite (Det.val _) Det.no
    | value f =>
      cases f <;> simp only at hn <;> (try cases hn)
      rename_i f
      simp only [eop, calleeOf, opdD, hn, if_true]
      refine Det.ite ?_ Det.no
      split
      · split
        · exact Det.ite (Det.val _) Det.no
        · exact Det.no
      · exact Det.no
  all_goals (simp only [eop])
  all_goals (split)
  all_goals first | exact Det.val _ | exact Det.CD _
end
end Go.AE
end

section
namespace Go.AE
open Go
set_option linter.unusedSimpArgs false
set_option linter.unusedVariables false

def Closed (ops : List Oper) (X : Nat → Prop) : Prop := ∀ j o, X j → getL ops j = some o → ∀ e ∈ o.after, Region.binds .any e = true → X e.on

theorem foldl_mask (done : List Nat) : ∀ (es : List Edge) (s j : Nat),
    (es.foldl (fun s e => if Region.binds .any e then s ||| 2 ^ e.on ||| ((getL done e.on).getD 0) else s) s).testBit j = true ↔
      s.testBit j = true ∨ ∃ e ∈ es, Region.binds .any e = true ∧ (j = e.on ∨ ((getL done e.on).getD 0).testBit j = true)
  | [], s, j => by simp
  | e :: es, s, j => by
    rw [List.foldl_cons, foldl_mask done es]
    by_cases hb : Region.binds .any e = true
    · rw [if_pos hb]
      simp only [Nat.testBit_or, Bool.or_eq_true, Nat.testBit_two_pow, decide_eq_true_eq, List.mem_cons]
      constructor
      · rintro (((h | h) | h) | ⟨e', h1, h2, h3⟩)
        · exact .inl h
        · exact .inr ⟨e, .inl rfl, hb, .inl h.symm⟩
        · exact .inr ⟨e, .inl rfl, hb, .inr h⟩
        · exact .inr ⟨e', .inr h1, h2, h3⟩
      · rintro (h | ⟨e', rfl | h1, h2, h3⟩)
        · exact .inl (.inl (.inl h))
        · rcases h3 with h3 | h3
          · exact .inl (.inl (.inr h3.symm))
          · exact .inl (.inr h3)
        · exact .inr ⟨e', h1, h2, h3⟩
    · rw [if_neg hb]
      simp only [List.mem_cons]
      constructor
      · rintro (h | ⟨e', h1, h2, h3⟩)
        · exact .inl h
        · exact .inr ⟨e', .inr h1, h2, h3⟩
      · rintro (h | ⟨e', rfl | h1, h2, h3⟩)
        · exact .inl h
        · exact absurd h2 hb
        · exact .inr ⟨e', h1, h2, h3⟩

theorem pmask_bit {done : List Nat} {o : Oper} {j : Nat} : (pmask done o).testBit j = true ↔
    ∃ e ∈ o.after, Region.binds .any e = true ∧ (j = e.on ∨ ((getL done e.on).getD 0).testBit j = true) := by
  unfold pmask
  rw [foldl_mask]
  simp [Array.mem_toList_iff]

/-- what a table says of its operations -/
def TabR (ops : List Oper) (i : Nat) (m : Nat) : Prop := ∃ o, getL ops i = some o ∧ (∀ e ∈ o.after, Region.binds .any e = true → m.testBit e.on = true) ∧
  ∀ X, Closed ops X → (∀ e ∈ o.after, Region.binds .any e = true → X e.on) → ∀ j, m.testBit j = true → X j

theorem tabGo_spec (ops : List Oper) : ∀ (l : List Oper) (done : List Nat) (i : Nat), i = done.length → ops.drop i = l → (∀ j m, getL done j = some m → TabR ops j m) →
    ∀ q ∈ tabGo done i l, getL ops q.1 = some q.2.1 ∧ TabR ops q.1 q.2.2
  | [], done, i, hi, hl, hd, q, hq => by simp [tabGo] at hq
  | o :: r, done, i, hi, hl, hd, q, hq => by
    have hio : getL ops i = some o := by
      rw [getL_eq]
      have : (ops.drop i)[0]? = some o := by rw [hl]; rfl
      rw [List.getElem?_drop] at this; simpa using this
    have hr : ops.drop (i + 1) = r := by
      have : (ops.drop i).drop 1 = r := by rw [hl]; rfl
      rwa [List.drop_drop] at this
    have hm : TabR ops i (pmask done o) := by
      refine ⟨o, hio, fun e he hb => pmask_bit.2 ⟨e, he, hb, .inl rfl⟩, fun X hX hp j hj => ?_⟩
      obtain ⟨e, he, hb, rfl | h⟩ := pmask_bit.1 hj
      · exact hp e he hb
      · cases hg : getL done e.on with
        | none => rw [hg] at h; simp at h
        | some m' =>
          rw [hg] at h
          obtain ⟨o', h1, h2, h3⟩ := hd _ _ hg
          exact h3 X hX (fun e' he' hb' => hX e.on o' (hp e he hb) h1 e' he' hb') j h
    simp only [tabGo, List.mem_cons] at hq
    rcases hq with rfl | hq
    · exact ⟨hio, hm⟩
    · refine tabGo_spec ops r (done ++ [pmask done o]) (i + 1) (by simp [hi]) hr (fun j m hj => ?_) q hq
      by_cases hlt : j < done.length
      · rw [getL_append_left hlt] at hj; exact hd j m hj
      · have hj' := getL_lt hj
        simp only [List.length_append, List.length_cons, List.length_nil] at hj'
        have : j = done.length := by omega
        subst this
        rw [getL_concat] at hj
        simp only [Option.some.injEq] at hj
        subst hj; rw [← hi]; exact hm

theorem tab_spec {ops : List Oper} {i m : Nat} {o : Oper} (h : (i, o, m) ∈ tabOf ops) : getL ops i = some o ∧ (∀ e ∈ o.after, Region.binds .any e = true → m.testBit e.on = true) ∧
    ∀ X, Closed ops X → (∀ e ∈ o.after, Region.binds .any e = true → X e.on) → ∀ j, m.testBit j = true → X j := by
  obtain ⟨h1, o', h2, h3, h4⟩ := tabGo_spec ops ops [] 0 rfl rfl (by intro j m hj; simp [getL] at hj) _ h
  rw [show getL ops i = some o from h1] at h2
  simp only [Option.some.injEq] at h2
  subst h2
  exact ⟨h1, h3, h4⟩

theorem tabGo_mem : ∀ (l : List Oper) (done : List Nat) (i k : Nat) (o : Oper), getL l k = some o → ∃ m, (i + k, o, m) ∈ tabGo done i l
  | [], _, _, _, _, h => by simp [getL] at h
  | x :: r, done, i, 0, o, h => by
    simp only [getL, Option.some.injEq] at h; subst h
    exact ⟨pmask done x, by simp [tabGo]⟩
  | x :: r, done, i, k + 1, o, h => by
    obtain ⟨m, hm⟩ := tabGo_mem r (done ++ [pmask done x]) (i + 1) k o h
    exact ⟨m, by simp only [tabGo, List.mem_cons]; right; rwa [show i + (k + 1) = i + 1 + k by omega]⟩
theorem tab_mem {ops : List Oper} {i : Nat} {o : Oper} (h : getL ops i = some o) : ∃ m, (i, o, m) ∈ tabOf ops := by
  obtain ⟨m, hm⟩ := tabGo_mem ops [] 0 i o h
  exact ⟨m, by have := hm; rw [Nat.zero_add] at this; exact this⟩

theorem tabGo_ge : ∀ (l : List Oper) (done : List Nat) (i : Nat), ∀ q ∈ tabGo done i l, i ≤ q.1
  | [], _, _, q, h => by simp [tabGo] at h
  | x :: r, done, i, q, h => by
    simp only [tabGo, List.mem_cons] at h
    rcases h with rfl | h
    · exact Nat.le_refl _
    · have := tabGo_ge r _ _ q h; omega
theorem tabGo_uniq : ∀ (l : List Oper) (done : List Nat) (i : Nat), ∀ q ∈ tabGo done i l, ∀ q' ∈ tabGo done i l, q.1 = q'.1 → q = q'
  | [], _, _, q, h, _, _, _ => by simp [tabGo] at h
  | x :: r, done, i, q, h, q', h', e => by
    simp only [tabGo, List.mem_cons] at h h'
    rcases h with rfl | h
    · rcases h' with rfl | h'
      · rfl
      · have := tabGo_ge r _ _ q' h'; simp only at e; omega
    · rcases h' with rfl | h'
      · have := tabGo_ge r _ _ q h; simp only at e; omega
      · exact tabGo_uniq r _ _ q h q' h' e
theorem tab_uniq {ops : List Oper} {i m m' : Nat} {o o' : Oper} (h : (i, o, m) ∈ tabOf ops) (h' : (i, o', m') ∈ tabOf ops) : o = o' ∧ m = m' := by
  have := tabGo_uniq ops [] 0 _ h _ h' rfl
  simpa using this

structure Static (ops : List Oper) : Prop where
  look : ∀ i o m, (i, o, m) ∈ tabOf ops → ∀ t ∈ looks ops o, ∀ j o' m', (j, o', m') ∈ tabOf ops → o'.dst = some t → j ≠ i → m.testBit j = true ∨ m'.testBit i = true
  dst : ∀ i o m, (i, o, m) ∈ tabOf ops → ∀ j o' m', (j, o', m') ∈ tabOf ops → j ≠ i → ∀ t, o.dst = some t → o'.dst ≠ some t
  back : ∀ i o m, (i, o, m) ∈ tabOf ops → ∀ e ∈ o.after, Region.binds .any e = true → e.on < i

theorem static_ok {ops : List Oper} (h : statOK ops (tabOf ops) = true) : Static ops := by
  unfold statOK at h
  rw [List.all_eq_true] at h
  have h' : ∀ i o m, (i, o, m) ∈ tabOf ops → _ := fun i o m hm => h (i, o, m) hm
  simp only [Bool.and_eq_true, List.all_eq_true] at h'
  refine ⟨fun i o m hm t ht j o' m' hj hd hne => ?_, fun i o m hm j o' m' hj hne t ht => ?_, fun i o m hm e he hb => ?_⟩
  · have := (h' i o m hm).1.1 t ht (j, o', m') hj
    simp only [Bool.or_eq_true, bne_iff_ne, ne_eq, beq_iff_eq] at this
    rcases this with ((h1 | h1) | h1) | h1
    · exact absurd hd h1
    · exact absurd h1 hne
    · exact .inl h1
    · exact .inr h1
  · have := (h' i o m hm).1.2
    rw [ht] at this
    simp only [List.all_eq_true] at this
    have := this (j, o', m') hj
    simp only [Bool.or_eq_true, bne_iff_ne, ne_eq, beq_iff_eq] at this
    exact this.resolve_left hne
  · have := (h' i o m hm).2 e (by simpa using he)
    simp only [hb, Bool.not_true, Bool.false_or] at this
    simpa [Nat.blt_eq] using this
end Go.AE
end

section
namespace Go.AE
open Go
set_option linter.unusedSimpArgs false
set_option linter.unusedVariables false
section
variable {T : Program} {B : Base} {C : Ctx} {st st' : St} {a : Act} {w w' : World} {o : Oper}

/-- less is said of the registers and boxes -/
theorem Rel.weaken {ex : List (D × Value)} (R : Rel B C st a w ex) (hl : st'.r.length = st.r.length) (hr : ∀ i d, getL st'.r i = some d → d = .dead ∨ getL st.r i = some d)
    (hb : ∀ s, getL st'.b s = getL st.b s ∨ (∀ x, getL st'.b s = some x → x = .none)) (hh : st'.h = st.h) (hdf : st'.df = st.df)
    (hlp : ∀ i d, getL st'.r i = some d → lpD (fun s => boxed st' s = true) d) (hex : ∀ i q, getL ex i = some q → lpD (fun s => boxed st' s = true) q.1) :
    Rel B { C with al := fun s => boxed st' s = true } st' a w ex := by
  have hbox : ∀ s, boxed st' s = true → getL st'.b s = getL st.b s := fun s h => by
    rcases hb s with h' | h'
    · exact h'
    · simp only [boxed] at h
      split at h
      · rename_i e; have := h' _ e; simp at this
      · rename_i e; have := h' _ e; simp at this
      · simp at h
  have hboxS : ∀ s, boxed st' s = true → boxed st s = true := fun s h => by
    have := hbox s h
    simp only [boxed] at h ⊢
    rw [← this]; exact h
  have c1 : CLe (fun s => boxed st' s = true) C { C with al := fun s => boxed st' s = true } := ⟨Le.refl _, Nat.le_refl _, fun _ _ => rfl, fun s h _ => ⟨h, rfl⟩⟩
  have hcell : ∀ k ds, cellsOf st' k = some ds → cellsOf st k = some ds := fun k ds h => by
    cases k with
    | box s =>
      simp only [cellsOf] at h ⊢
      rcases hb s with h' | h'
      · rw [← h']; exact h
      · split at h
        · rename_i e; have := h' _ e; simp at this
        · simp at h
    | blk id => simp only [cellsOf] at h ⊢; rw [← hh]; exact h
  have hlive : ∀ k, liveK st' k = true → liveK st k = true := fun k h => by
    cases k with
    | box s =>
      simp only [liveK] at h ⊢
      rcases hb s with h' | h'
      · rw [← h']; exact h
      · split at h
        · rename_i e; have := h' _ e; simp at this
        · simp at h
    | blk id => simp only [liveK] at h ⊢; rw [← hh]; exact h
  have hat : ∀ p d v, atPos { C with al := fun s => boxed st' s = true } st' a.tmps w ex p = some (d, v) → d = .dead ∨ atPos C st a.tmps w ex p = some (d, v) := by
    intro p d v e
    cases p with
    | reg i =>
      simp only [atPos, both_some] at e ⊢
      rcases hr i d e.1 with h | h
      · exact .inl h
      · exact .inr ⟨h, e.2⟩
    | ex j => exact .inr e
    | cell k j =>
      simp only [atPos, both_some] at e ⊢
      obtain ⟨h1, h2⟩ := e
      rw [Option.bind_eq_some_iff] at h1
      obtain ⟨ds, h1, h3⟩ := h1
      exact .inr ⟨by rw [hcell k ds h1]; exact h3, h2⟩
    | blk k => simp [atPos] at e
  have hx : ∀ p n, xb { C with al := fun s => boxed st' s = true } st' a.tmps w ex p = some n → xb C st a.tmps w ex p = some n := by
    intro p n e
    have nb : ∀ {p}, (atPos { C with al := fun s => boxed st' s = true } st' a.tmps w ex p).bind (fun q => tailBlk q.1 q.2) = some n → (atPos C st a.tmps w ex p).bind (fun q => tailBlk q.1 q.2) = some n := by
      intro p e
      rw [Option.bind_eq_some_iff] at e
      obtain ⟨⟨d, v⟩, h1, h2⟩ := e
      rcases hat p d v h1 with rfl | h
      · simp [tailBlk] at h2
      · rw [h]; exact h2
    cases p with
    | blk k =>
      simp only [xb] at e ⊢
      split at e
      · rename_i h; rw [if_pos (hlive k h)]; exact e
      · simp at e
    | reg i => exact nb e
    | ex j => exact nb e
    | cell k j => exact nb e
  refine { len := by rw [hl]; exact R.len, regs := ?_, exs := fun i q h => RepD.mono c1 _ _ (hex i q h) (R.exs i q h), cells := ?_, al := fun s => Iff.rfl, seals := ?_, frzs := by rw [hh]; exact R.frzs, nh := by rw [hh]; exact R.nh,
           hb := by rw [hh]; exact R.hb, tails := ?_, inj := fun p q n h1 h2 => R.inj p q n (hx p n h1) (hx q n h2), bound := fun p n h => R.bound p n (hx p n h), empty := fun k h => R.empty k (hlive k h),
           sub := R.sub, frm := R.frm, defs := by rw [hdf]; exact R.defs, defr := ?_, maps := ?_ }
  · intro i d v h1 h2
    rcases hr i d h1 with rfl | h
    · simp [RepD]
    · exact RepD.mono c1 _ _ (hlp i d h1) (R.regs i d v h h2)
  · intro k ds j d h1 h2
    obtain ⟨h3, v, h4, h5, h6, h7⟩ := R.cells k ds j d (hcell k ds h1) h2
    exact ⟨h3, v, h4, h5, RepD.mono c1 d v (okArg_lpD h3) h6, h7⟩
  · intro s ps e
    rcases hb s with h' | h'
    · exact R.seals s ps (by rw [← h']; exact e)
    · have := h' _ e; simp at this
  · intro p d v e
    rcases hat p d v e with rfl | h
    · exact TailOK_loose rfl
    · exact R.tails p d v h
  · intro i q d h1 h2
    rw [hdf] at h1
    obtain ⟨e1, cs, e2, e3⟩ := R.defr i q d h1 h2
    exact ⟨e1, cs, e2, RepDs.mono c1 _ _ (okArgs_lpDs e1) e3⟩
  · intro id es clock e
    rw [hh] at e
    obtain ⟨ms, h1, h2, h3⟩ := R.maps id es clock e
    refine ⟨ms, h1, h2, fun i q me e1 e2 => ?_⟩
    obtain ⟨g1, g2, g3, g4, g5⟩ := h3 i q me e1 e2
    exact ⟨g1, g2, RepD.mono c1 _ _ (okArg_lpD g4) g3, g4, g5⟩

mutual
theorem lpD_and {S S' : Nat → Prop} : ∀ {d : D}, lpD S d → lpD S' d → lpD (fun s => S s ∧ S' s) d
  | .lp s _, h, g => by simp only [lpD] at h g ⊢; exact ⟨h, g⟩
  | .agg ds, h, g => by simp only [lpD] at h g ⊢; exact lpDs_and h g
  | .fn _ ds, h, g => by simp only [lpD] at h g ⊢; exact lpDs_and h g
  | .tup ds, h, g => by simp only [lpD] at h g ⊢; exact lpDs_and h g
  | .p _, _, _ => by simp [lpD]
  | .own _ _, _, _ => by simp [lpD]
  | .ref _ _, _, _ => by simp [lpD]
  | .ms _ _ _ _, _, _ => by simp [lpD]
  | .mp _, _, _ => by simp [lpD]
  | .dead, _, _ => by simp [lpD]
theorem lpDs_and {S S' : Nat → Prop} : ∀ {ds : List D}, lpDs S ds → lpDs S' ds → lpDs (fun s => S s ∧ S' s) ds
  | [], _, _ => by simp [lpDs]
  | d :: ds, h, g => by simp only [lpDs] at h g ⊢; exact ⟨lpD_and h.1 g.1, lpDs_and h.2 g.2⟩
end

theorem lpD_of_reg {ex : List (D × Value)} (R : Rel B C st a w ex) {i : Nat} {d : D} (h : getL st.r i = some d) : lpD (fun s => boxed st s = true) d := by
  have hlt : i < a.tmps.size := by rw [R.len]; exact getL_lt h
  have := RepD_al (R.regs i d a.tmps[i] h (by simp [hlt]))
  exact lpD_mono (fun s hs => (R.al s).1 hs) this

theorem boxed_dropB {st : St} {d s : Nat} : boxed (dropB st d) s = true ↔ boxed st s = true ∧ s ≠ d := by
  unfold dropB
  split
  · rename_i hb
    simp only [boxed, getL_setL]
    by_cases h : d = s
    · subst h
      by_cases hl : d < st.b.length
      · simp [hl]
      · have : getL st.b d = none := by rw [getL_eq]; simp; omega
        simp [hl, this]
    · rw [if_neg (by omega)]
      simp [Ne.symm h]
  · rename_i hb
    constructor
    · intro h; exact ⟨h, by rintro rfl; exact hb h⟩
    · exact fun h => h.1

theorem Rel.dropB (R : Rel B C st a w []) (d : Tmp) : ∃ C', Rel B C' (dropB st d) a w [] := by
  by_cases hb : boxed st d = true
  case neg => rw [show AE.dropB st d = st by simp [AE.dropB, hb]]; exact ⟨C, R⟩
  refine ⟨_, R.weaken ?_ ?_ ?_ ?_ ?_ ?_ (by intro i q h; simp [getL] at h)⟩
  · simp [AE.dropB, hb]
  · intro i x h
    simp only [AE.dropB, hb, if_true, getL_map, Option.map_eq_some_iff] at h
    obtain ⟨y, h1, h2⟩ := h
    split at h2
    · exact .inl h2.symm
    · subst h2; exact .inr h1
  · intro s
    simp only [AE.dropB, hb, if_true, getL_setL]
    by_cases h : d = s ∧ s < st.b.length
    · rw [if_pos h]; exact .inr (by simp)
    · rw [if_neg h]; exact .inl rfl
  · simp [AE.dropB, hb]
  · simp [AE.dropB, hb]
  · intro i x h
    have h' := h
    simp only [AE.dropB, hb, if_true, getL_map, Option.map_eq_some_iff] at h
    obtain ⟨y, h1, h2⟩ := h
    by_cases hm : mentions d y = true
    · simp only [hm, if_true] at h2; subst h2; simp [lpD]
    · simp only [hm, Bool.false_eq_true, if_false] at h2
      subst h2
      have l1 := mentions_lpD (by simpa using hm)
      have l2 := lpD_of_reg R h1
      exact lpD_mono (fun s hs => boxed_dropB.2 hs) (lpD_and l2 l1)

theorem length_wipeR : ∀ (ts : List Tmp) (r : List D), (wipeR ts r).length = r.length
  | [], r => rfl
  | t :: ts, r => by simp [wipeR, length_wipeR ts, length_setL]
theorem getL_wipeR : ∀ (ts : List Tmp) (r : List D) (i : Nat), getL (wipeR ts r) i = if i ∈ ts ∧ i < r.length then some .dead else getL r i
  | [], r, i => by simp [wipeR]
  | t :: ts, r, i => by
    rw [wipeR, getL_wipeR ts, getL_setL, length_setL]
    by_cases h1 : i ∈ ts ∧ i < r.length
    · rw [if_pos h1, if_pos ⟨List.mem_cons_of_mem _ h1.1, h1.2⟩]
    · rw [if_neg h1]
      by_cases h2 : t = i ∧ i < r.length
      · rw [if_pos h2, if_pos ⟨by simp [h2.1], h2.2⟩]
      · rw [if_neg h2, if_neg]
        rintro ⟨h3, h4⟩
        rcases List.mem_cons.1 h3 with h3 | h3
        · exact h2 ⟨h3.symm, h4⟩
        · exact h1 ⟨h3, h4⟩

theorem Rel.wipe {ex : List (D × Value)} (R : Rel B C st a w ex) (ops : List Oper) (hex : ∀ i q, getL ex i = some q → okArg q.1 = true) : ∃ C', Rel B C' (wipe ops st) a w ex := by
  have get : ∀ i x, getL (AE.wipe ops st).r i = some x → okArg x = true ∧ (x = .dead ∨ getL st.r i = some x) := by
    intro i x h
    simp only [AE.wipe, getL_wipeR] at h
    split at h
    · simp only [Option.some.injEq] at h; subst h; exact ⟨rfl, .inl rfl⟩
    · rw [getL_map, Option.map_eq_some_iff] at h
      obtain ⟨y, h1, h2⟩ := h
      split at h2
      · rename_i hy; subst h2; exact ⟨hy, .inr h1⟩
      · subst h2; exact ⟨rfl, .inl rfl⟩
  refine ⟨_, R.weaken ?_ (fun i x h => (get i x h).2) ?_ rfl rfl (fun i x h => okArg_lpD (get i x h).1) (fun i q h => okArg_lpD (hex i q h))⟩
  · simp [AE.wipe, length_wipeR]
  · intro s
    right
    intro x h
    simp only [AE.wipe, getL_map, Option.map_eq_some_iff] at h
    obtain ⟨_, _, h⟩ := h
    exact h.symm
end
end Go.AE
end

section
namespace Go.AE
open Go
set_option linter.unusedSimpArgs false
set_option linter.unusedVariables false
section
variable (T : Program) (CALL : FuncId → List D → List Blk → (Res → List Blk → Prop) → Prop) (DFR : List (FuncId × List D) → Ex → List Blk → (Ex → List Blk → Prop) → Prop) (esc ap : List Tmp) (ops : List Oper)

def Fin (o : Oper) (st : St) (v : D) : Prop := ∀ t, o.dst = some t → t < st.r.length → getL st.r t = some v

/-- what is known of an operation that may be carried out at any time -/
def Pend (me : Nat) (S0 : List D) (Sc : St) (i : Nat) (o : Oper) (m : Nat) : Prop :=
  ∃ v0, Fin o Sc v0 ∧ ∀ s : St,
   (∀ t ∈ looks ops o, (∃ j o' m', (j, o', m') ∈ tabOf ops ∧ o'.dst = some t ∧ m.testBit j = true ∧ j ≠ i) → getL s.r t = getL Sc.r t) →
   (∀ t ∈ looks ops o, (∀ j o' m', (j, o', m') ∈ tabOf ops → o'.dst = some t → j ≠ i → m.testBit j = false) → getL s.r t = getL S0 t) →
   (me.testBit i = true → ∀ t x d, o.op = .load t x → loadD T Sc t (opdD s.r x) = some d → loadD T s t (opdD s.r x) = some d) →
   wantedD (AP CALL DFR) ops s o (eop T (AP CALL DFR) esc ap s o (fun v s' => v = v0 ∧ s' = s) (fun _ _ => False)) (v0 = .tup [])

def PendA (Sc : St) (o : Oper) : Prop := ∃ d t z, o.dst = some d ∧ o.op = .alloc t ∧ zeroT T t = some z ∧ d < Sc.b.length ∧ getL Sc.b d = some (.live (z.cells.map .p)) ∧ (d < Sc.r.length → getL Sc.r d = some (.lp d 0))

structure Inv (X : Nat → Prop) (dn me : Nat) (rest : List Ent) (S0 : List D) (Sc cur : St) : Prop where
  len : cur.r.length = Sc.r.length
  lenb : cur.b.length = Sc.b.length
  h : cur.h = Sc.h
  df : cur.df = Sc.df
  XD : ∀ i o m, (i, o, m) ∈ tabOf ops → X i → dn.testBit i = true
  ev : ∀ i o m, (i, o, m) ∈ tabOf ops → dn.testBit i = true → ¬ X i → neutral T ap o = true ∨ isA esc o = true
  top : ∀ i o m, (i, o, m) ∈ tabOf ops → dn.testBit i = true → ∀ j, m.testBit j = true → dn.testBit j = true
  rst : ∀ q ∈ rest, q ∈ tabOf ops
  cov : ∀ i o m, (i, o, m) ∈ tabOf ops → dn.testBit i = true ∨ (i, o, m) ∈ rest
  regX : ∀ t i o m, (i, o, m) ∈ tabOf ops → X i → o.dst = some t → getL cur.r t = getL Sc.r t
  regN : ∀ t, (∀ i o m, (i, o, m) ∈ tabOf ops → X i → o.dst ≠ some t) → getL cur.r t = getL S0 t
  regD : ∀ t, (∀ i o m, (i, o, m) ∈ tabOf ops → dn.testBit i = true → o.dst ≠ some t) → getL Sc.r t = getL S0 t
  bAll : ∀ s, (∀ i o m, (i, o, m) ∈ tabOf ops → isA esc o = true → ¬ X i → o.dst ≠ some s) → getL cur.b s = getL Sc.b s
  bNone : ∀ i o m d, (i, o, m) ∈ tabOf ops → isA esc o = true → ¬ X i → o.dst = some d → boxed cur d = false
  bNone2 : ∀ i o m d, (i, o, m) ∈ tabOf ops → isA esc o = true → dn.testBit i = false → o.dst = some d → boxed Sc d = false
  bLive : ∀ i o m, (i, o, m) ∈ tabOf ops → isA esc o = true → dn.testBit i = true → ¬ X i → PendA T Sc o
  pend : ∀ i o m, (i, o, m) ∈ tabOf ops → dn.testBit i = true → ¬ X i → neutral T ap o = true → Pend T CALL DFR esc ap ops me S0 Sc i o m
end

section
variable {T : Program} {B : Base} {C : Ctx} {st st' : St} {a : Act} {w w' : World} {o : Oper}
variable {CALL : FuncId → List D → List Blk → (Res → List Blk → Prop) → Prop} {DFR : List (FuncId × List D) → Ex → List Blk → (Ex → List Blk → Prop) → Prop} {esc ap : List Tmp} {ops : List Oper}

theorem tmp_looks {t : Tmp} (h : .tmp t ∈ o.op.operands) : t ∈ looks ops o := by
  unfold looks
  refine List.mem_append_left _ (List.mem_filterMap.2 ⟨.tmp t, by simpa using h, rfl⟩)

theorem agree_of {r r' : List D} (h : ∀ t ∈ looks ops o, getL r t = getL r' t) : Agree o r r' := by
  intro x hx
  cases x with
  | tmp t => simp only [opdD]; rw [h t (tmp_looks hx)]
  | const v => rfl
  | func f => rfl
  | global g => rfl

theorem wantedD_congr {s st : St} {yes no : Prop} (h : ∀ t ∈ looks ops o, getL s.r t = getL st.r t) :
    wantedD (AP CALL DFR) ops s o yes no = wantedD (AP CALL DFR) ops st o yes no := by
  unfold wantedD
  cases hg : o.guard with
  | none => rfl
  | some p =>
    obtain ⟨j, want⟩ := p
    simp only []
    cases hd : (getL ops j).bind (·.dst) with
    | none => rfl
    | some d =>
      have : d ∈ looks ops o := by
        unfold looks
        refine List.mem_append_right _ ?_
        simp [hg, hd]
      simp only [h d this]

theorem wantedD_imp {yes no : Prop} (h : wantedD (AP CALL DFR) ops st o yes no) : 
    (yes ∧ (∀ yes' no' : Prop, yes' → wantedD (AP CALL DFR) ops st o yes' no')) ∨ (no ∧ (∀ yes' no' : Prop, no' → wantedD (AP CALL DFR) ops st o yes' no')) := by
  unfold wantedD at h ⊢
  cases hg : o.guard with
  | none => rw [hg] at h; exact .inl ⟨h, fun _ _ h => h⟩
  | some p =>
    rw [hg] at h
    obtain ⟨j, want⟩ := p
    simp only [] at h ⊢
    split at h
    · split at h
      · split at h
        · rename_i hw
          simp only [hw, if_true]
          rcases pbr_elim h with ⟨rfl, h'⟩ | ⟨rfl, h'⟩
          · exact .inl ⟨h', fun _ _ h => pbr_true h⟩
          · exact .inr ⟨h', fun _ _ h => pbr_false h⟩
        · rename_i hw
          simp only [hw, if_false]
          rcases pbr_elim h with ⟨rfl, h'⟩ | ⟨rfl, h'⟩
          · exact .inr ⟨h', fun _ _ h => pbr_true h⟩
          · exact .inl ⟨h', fun _ _ h => pbr_false h⟩
      · exact .inr ⟨h, fun _ _ h => h⟩
      · exact h.elim
    · exact h.elim

theorem getL_putR_ne {dst : Option Tmp} {d : D} {t : Tmp} (h : dst ≠ some t) : getL (putR st dst d).r t = getL st.r t := by
  cases dst with
  | none => rfl
  | some x =>
    simp only [putR, getL_setL]
    rw [if_neg]
    rintro ⟨rfl, _⟩
    exact h rfl
theorem getL_putR_eq {d : D} {t : Tmp} (h : t < st.r.length) : getL (putR st (some t) d).r t = some d := by
  simp only [putR, getL_setL]; rw [if_pos ⟨trivial, h⟩]
theorem length_putR {dst : Option Tmp} {d : D} : (putR st dst d).r.length = st.r.length := by
  cases dst <;> simp [putR, length_setL]
theorem putR_b {dst : Option Tmp} {d : D} : (putR st dst d).b = st.b := by cases dst <;> rfl
theorem putR_h {dst : Option Tmp} {d : D} : (putR st dst d).h = st.h := by cases dst <;> rfl
theorem putR_df {dst : Option Tmp} {d : D} : (putR st dst d).df = st.df := by cases dst <;> rfl
theorem getL_putR_same {s st : St} {dst : Option Tmp} {d : D} {t : Tmp} (hl : s.r.length = st.r.length) (h : dst = some t ∨ getL s.r t = getL st.r t) :
    getL (putR s dst d).r t = getL (putR st dst d).r t := by
  by_cases e : dst = some t
  · subst e
    by_cases ht : t < s.r.length
    · have ht' : t < st.r.length := by rw [← hl]; exact ht
      rw [getL_putR_eq ht, getL_putR_eq ht']
    · have h1 : (putR s (some t) d).r.length ≤ t := by rw [length_putR]; exact Nat.le_of_not_lt ht
      have h2 : (putR st (some t) d).r.length ≤ t := by rw [length_putR, ← hl]; exact Nat.le_of_not_lt ht
      rw [getL_eq, getL_eq, List.getElem?_eq_none h1, List.getElem?_eq_none h2]
  · rw [getL_putR_ne e, getL_putR_ne e]
    exact h.resolve_left e

theorem loadD_mem {s st : St} (hb : s.b = st.b) (hh : s.h = st.h) (t : TypeId) (d : D) : loadD T s t d = loadD T st t d := by
  unfold loadD; rw [hb, hh]

theorem Pend.persist {me me' : Nat} {S0 : List D} {Sc Sc' : St} {i m : Nat} (P : Pend T CALL DFR esc ap ops me S0 Sc i o m)
    (hl : Sc'.r.length = Sc.r.length)
    (hr : ∀ t j o' m', (j, o', m') ∈ tabOf ops → o'.dst = some t → m.testBit j = true → getL Sc'.r t = getL Sc.r t)
    (hd : ∀ t, o.dst = some t → getL Sc'.r t = getL Sc.r t)
    (hm : me.testBit i = true → ∀ t d x, loadD T Sc t d = some x → loadD T Sc' t d = some x) (he : me'.testBit i = me.testBit i) : Pend T CALL DFR esc ap ops me' S0 Sc' i o m := by
  obtain ⟨v0, h1, h2⟩ := P
  refine ⟨v0, fun t ht hlt => by rw [hd t ht]; exact h1 t ht (by rw [← hl]; exact hlt), fun s e1 e2 e3 => h2 s (fun t ht hj => ?_) e2 (fun h t x d hx hd' => ?_)⟩
  · obtain ⟨j, o', m', g1, g2, g3, g4⟩ := hj
    rw [← hr t j o' m' g1 g2 g3]; exact e1 t ht ⟨j, o', m', g1, g2, g3, g4⟩
  · exact e3 (by rw [he]; exact h) t x d hx (hm h t _ d hd')

theorem isA_spec (h : isA esc o = true) : ∃ t d, o.op = .alloc t ∧ o.dst = some d ∧ esc.contains d = false ∧ o.after = #[] ∧ o.guard = none := by
  unfold isA at h
  split at h
  · rename_i t d h1 h2
    simp only [Bool.and_eq_true, Bool.not_eq_true', Array.isEmpty_iff, Option.isNone_iff_eq_none] at h
    exact ⟨t, d, h1, h2, h.1.1, h.1.2, h.2⟩
  · cases h
theorem isA_neutral (h : isA esc o = true) : neutral T ap o = false := by
  obtain ⟨t, d, h1, _⟩ := isA_spec h
  unfold neutral; rw [h1]

theorem testBit_or_pow {n i j : Nat} : (n ||| 2 ^ i).testBit j = true ↔ n.testBit j = true ∨ i = j := by
  simp [Nat.testBit_or, Nat.testBit_two_pow]
theorem testBit_or_pow_ne {n i j : Nat} (h : i ≠ j) : (n ||| 2 ^ i).testBit j = n.testBit j := by
  simp [Nat.testBit_or, Nat.testBit_two_pow, h]
theorem and_sub {m n : Nat} (h : (m &&& n) = m) {j : Nat} (hj : m.testBit j = true) : n.testBit j = true := by
  rw [← h, Nat.testBit_and, Bool.and_eq_true] at hj; exact hj.2

/-- ahead of the head of the rest: one that may be carried out at any time -/
theorem Inv.neut (hS : Static ops) {X : Nat → Prop} {dn me : Nat} {rest : List Ent} {S0 : List D} {Sc cur : St} {i m : Nat} {v : D}
    (I : Inv T CALL DFR esc ap ops X dn me ((i, o, m) :: rest) S0 Sc cur) (hi : dn.testBit i = false) (hm : (m &&& dn) = m) (hn : neutral T ap o = true) (me' : Nat) (hme : me' = me ∨ me' = me ||| 2 ^ i)
    (hv : ∀ s : St, (∀ t ∈ looks ops o, getL s.r t = getL Sc.r t) → (me'.testBit i = true → ∀ t x d, o.op = .load t x → loadD T Sc t (opdD s.r x) = some d → loadD T s t (opdD s.r x) = some d) →
      wantedD (AP CALL DFR) ops s o (eop T (AP CALL DFR) esc ap s o (fun v' s' => v' = v ∧ s' = s) (fun _ _ => False)) (v = .tup [])) :
    Inv T CALL DFR esc ap ops X (dn ||| 2 ^ i) me' rest S0 (putR Sc o.dst v) cur := by
  have hit : (i, o, m) ∈ tabOf ops := I.rst _ (by simp)
  have hXi : ¬ X i := fun h => by have := I.XD i o m hit h; rw [hi] at this; cases this
  have hA : isA esc o = false := by
    cases h : isA esc o with
    | false => rfl
    | true => rw [isA_neutral h] at hn; cases hn
  have up : ∀ j, dn.testBit j = true → (dn ||| 2 ^ i).testBit j = true := fun j h => testBit_or_pow.2 (.inl h)
  have hme' : ∀ j, j ≠ i → me'.testBit j = me.testBit j := fun j h => by
    rcases hme with rfl | rfl
    · rfl
    · exact testBit_or_pow_ne (Ne.symm h)
  have dne : ∀ {j o' m' t}, (j, o', m') ∈ tabOf ops → j ≠ i → o'.dst = some t → getL (putR Sc o.dst v).r t = getL Sc.r t := fun h1 h2 h3 =>
    getL_putR_ne (fun e => hS.dst _ _ _ hit _ _ _ h1 h2 _ e h3)
  refine { len := by rw [length_putR]; exact I.len, lenb := by rw [putR_b]; exact I.lenb, h := by rw [putR_h]; exact I.h, df := by rw [putR_df]; exact I.df,
           XD := fun j o' m' hj hX => up j (I.XD j o' m' hj hX), ev := ?_, top := ?_, rst := fun q hq => I.rst q (by simp [hq]), cov := ?_, regX := ?_, regN := I.regN, regD := ?_, bAll := fun s hs => by rw [putR_b]; exact I.bAll s hs,
           bNone := I.bNone, bNone2 := ?_, bLive := ?_, pend := ?_ }
  · intro j o' m' hj hd hX
    rcases testBit_or_pow.1 hd with h | rfl
    · exact I.ev j o' m' hj h hX
    · obtain ⟨rfl, rfl⟩ := tab_uniq hit hj; exact .inl hn
  · intro j o' m' hj hd k hk
    rcases testBit_or_pow.1 hd with h | rfl
    · exact up k (I.top j o' m' hj h k hk)
    · obtain ⟨rfl, rfl⟩ := tab_uniq hit hj
      exact up k (and_sub hm hk)
  · intro j o' m' hj
    rcases I.cov j o' m' hj with h | h
    · exact .inl (up j h)
    · rcases List.mem_cons.1 h with h | h
      · simp only [Prod.mk.injEq] at h
        exact .inl (testBit_or_pow.2 (.inr h.1.symm))
      · exact .inr h
  · intro t j o' m' hj hX ht
    rw [I.regX t j o' m' hj hX ht, dne hj (by rintro rfl; exact hXi hX) ht]
  · intro t h
    have h1 : o.dst ≠ some t := h i o m hit (testBit_or_pow.2 (.inr rfl))
    rw [getL_putR_ne h1]
    exact I.regD t fun j o' m' hj hd => h j o' m' hj (up j hd)
  · intro j o' m' d hj ha hd ht
    have : dn.testBit j = false := by
      cases e : dn.testBit j with
      | false => rfl
      | true => rw [up j e] at hd; cases hd
    have := I.bNone2 j o' m' d hj ha this ht
    unfold boxed at this ⊢; rw [putR_b]; exact this
  · intro j o' m' hj ha hd hX
    have hji : j ≠ i := by rintro rfl; obtain ⟨rfl, rfl⟩ := tab_uniq hit hj; rw [hA] at ha; cases ha
    have hd : dn.testBit j = true := (testBit_or_pow.1 hd).resolve_right (Ne.symm hji)
    obtain ⟨d, t, z, e1, e2, e3, e4, e5, e6⟩ := I.bLive j o' m' hj ha hd hX
    exact ⟨d, t, z, e1, e2, e3, by rw [putR_b]; exact e4, by rw [putR_b]; exact e5, fun h => by rw [dne hj hji e1]; exact e6 (by rwa [length_putR] at h)⟩
  · intro j o' m' hj hd hX hnj
    by_cases hji : j = i
    · subst hji
      obtain ⟨rfl, rfl⟩ := tab_uniq hit hj
      refine ⟨v, fun t ht hlt => ?_, fun s e1 e2 e3 => hv s (fun t ht => ?_) (fun h t x d hx hd' => ?_)⟩
      · rw [ht]; exact getL_putR_eq (by rwa [length_putR] at hlt)
      · by_cases hex : ∃ j' o' m', (j', o', m') ∈ tabOf ops ∧ o'.dst = some t ∧ m.testBit j' = true ∧ j' ≠ j
        · rw [e1 t ht hex]
          obtain ⟨j', o', m', g1, g2, g3, g4⟩ := hex
          exact dne g1 g4 g2
        · rw [e2 t ht (fun j' o' m' g1 g2 g4 => by
            cases g3 : m.testBit j' with
            | false => rfl
            | true => exact absurd ⟨j', o', m', g1, g2, g3, g4⟩ hex)]
          refine (I.regD t fun j' o' m' g1 gd g2 => ?_).symm
          have g4 : j' ≠ j := by rintro rfl; rw [hi] at gd; cases gd
          rcases hS.look j o m hit t ht j' o' m' g1 g2 g4 with g3 | g3
          · exact hex ⟨j', o', m', g1, g2, g3, g4⟩
          · have := I.top j' o' m' g1 gd j g3
            rw [hi] at this; cases this
      · exact e3 h t x d hx (by rw [loadD_mem putR_b putR_h]; exact hd')
    · have hd : dn.testBit j = true := (testBit_or_pow.1 hd).resolve_right (Ne.symm hji)
      refine (I.pend j o' m' hj hd hX hnj).persist length_putR (fun t j' o'' m'' g1 g2 g3 => ?_) (fun t ht => dne hj hji ht) (fun _ t d x hx => by rw [loadD_mem putR_b putR_h]; exact hx) (hme' j hji)
      have : dn.testBit j' = true := I.top j o' m' hj hd j' g3
      exact dne g1 (by rintro rfl; rw [hi] at this; cases this) g2

/-- ahead of the head of the rest: a box that may be made at any time -/
theorem Inv.alloc (hS : Static ops) {X : Nat → Prop} {dn me : Nat} {rest : List Ent} {S0 : List D} {Sc cur : St} {i m d : Nat} {z : P} {ty : TypeId}
    (I : Inv T CALL DFR esc ap ops X dn me ((i, o, m) :: rest) S0 Sc cur) (hi : dn.testBit i = false) (hm : (m &&& dn) = m) (ha : isA esc o = true) (hme : me = 0)
    (hop : o.op = .alloc ty) (hd : o.dst = some d) (hz : zeroT T ty = some z) (hlt : d < Sc.b.length) :
    Inv T CALL DFR esc ap ops X (dn ||| 2 ^ i) me rest S0 (putR (newBox Sc d (z.cells.map .p)) (some d) (.lp d 0)) cur := by
  have hit : (i, o, m) ∈ tabOf ops := I.rst _ (by simp)
  have hXi : ¬ X i := fun h => by have := I.XD i o m hit h; rw [hi] at this; cases this
  have hnb : boxed Sc d = false := I.bNone2 i o m d hit ha hi hd
  have hnr : (newBox Sc d (z.cells.map .p)).r = Sc.r := by simp [newBox, hnb]
  have hn : neutral T ap o = false := isA_neutral ha
  have up : ∀ j, dn.testBit j = true → (dn ||| 2 ^ i).testBit j = true := fun j h => testBit_or_pow.2 (.inl h)
  have ne : ∀ {t}, d ≠ t → getL (putR (newBox Sc d (z.cells.map .p)) (some d) (.lp d 0)).r t = getL Sc.r t := fun h => by
    rw [getL_putR_ne (by simpa using h), hnr]
  have dne : ∀ {j o' m' t}, (j, o', m') ∈ tabOf ops → j ≠ i → o'.dst = some t → d ≠ t := fun h1 h2 h3 e => hS.dst _ _ _ hit _ _ _ h1 h2 _ (by rw [hd, e]) h3
  have bb : ∀ s, d ≠ s → getL (putR (newBox Sc d (z.cells.map .p)) (some d) (.lp d 0)).b s = getL Sc.b s := fun s h => by
    rw [putR_b]; simp only [newBox, getL_setL]; rw [if_neg (by rintro ⟨h', _⟩; exact h h')]
  refine { len := by rw [length_putR, hnr]; exact I.len, lenb := by rw [putR_b]; simp only [newBox, length_setL]; exact I.lenb, h := by rw [putR_h]; exact I.h, df := by rw [putR_df]; exact I.df,
           XD := fun j o' m' hj hX => up j (I.XD j o' m' hj hX), ev := ?_, top := ?_, rst := fun q hq => I.rst q (by simp [hq]), cov := ?_, regX := ?_, regN := I.regN, regD := ?_, bAll := ?_,
           bNone := I.bNone, bNone2 := ?_, bLive := ?_, pend := ?_ }
  · intro j o' m' hj hd hX
    rcases testBit_or_pow.1 hd with h | rfl
    · exact I.ev j o' m' hj h hX
    · obtain ⟨rfl, rfl⟩ := tab_uniq hit hj; exact .inr ha
  · intro j o' m' hj hd k hk
    rcases testBit_or_pow.1 hd with h | rfl
    · exact up k (I.top j o' m' hj h k hk)
    · obtain ⟨rfl, rfl⟩ := tab_uniq hit hj
      exact up k (and_sub hm hk)
  · intro j o' m' hj
    rcases I.cov j o' m' hj with h | h
    · exact .inl (up j h)
    · rcases List.mem_cons.1 h with h | h
      · simp only [Prod.mk.injEq] at h
        exact .inl (testBit_or_pow.2 (.inr h.1.symm))
      · exact .inr h
  · intro t j o' m' hj hX ht
    rw [I.regX t j o' m' hj hX ht, ne (dne hj (by rintro rfl; exact hXi hX) ht)]
  · intro t h
    have h1 : o.dst ≠ some t := h i o m hit (testBit_or_pow.2 (.inr rfl))
    rw [ne (by rintro rfl; exact h1 hd)]
    exact I.regD t fun j o' m' hj hd => h j o' m' hj (up j hd)
  · intro s hs
    rw [I.bAll s hs, bb s (by rintro rfl; exact hs i o m hit ha hXi hd)]
  · intro j o' m' d' hj ha' hd' ht
    have hj' : dn.testBit j = false := by
      cases e : dn.testBit j with
      | false => rfl
      | true => rw [up j e] at hd'; cases hd'
    have hji : j ≠ i := by rintro rfl; rw [testBit_or_pow.2 (.inr rfl)] at hd'; cases hd'
    have := I.bNone2 j o' m' d' hj ha' hj' ht
    unfold boxed at this ⊢; rw [bb d' (dne hj hji ht)]; exact this
  · intro j o' m' hj ha' hd' hX
    by_cases hji : j = i
    · subst hji
      obtain ⟨rfl, rfl⟩ := tab_uniq hit hj
      refine ⟨d, ty, z, hd, hop, hz, by rw [putR_b]; simpa [newBox, length_setL] using hlt, ?_, fun h => getL_putR_eq (by rw [length_putR] at h; exact h)⟩
      rw [putR_b]; simp only [newBox, getL_setL]; rw [if_pos ⟨trivial, hlt⟩]
    · have hd' : dn.testBit j = true := (testBit_or_pow.1 hd').resolve_right (Ne.symm hji)
      obtain ⟨d', t, z', e1, e2, e3, e4, e5, e6⟩ := I.bLive j o' m' hj ha' hd' hX
      exact ⟨d', t, z', e1, e2, e3, by rw [putR_b]; simpa [newBox, length_setL] using e4, by rw [bb _ (dne hj hji e1)]; exact e5, fun h => by rw [ne (dne hj hji e1)]; exact e6 (by rwa [length_putR, hnr] at h)⟩
  · intro j o' m' hj hd' hX hnj
    have hji : j ≠ i := by rintro rfl; obtain ⟨rfl, rfl⟩ := tab_uniq hit hj; rw [hn] at hnj; cases hnj
    have hd' : dn.testBit j = true := (testBit_or_pow.1 hd').resolve_right (Ne.symm hji)
    refine (I.pend j o' m' hj hd' hX hnj).persist (by rw [length_putR, hnr]) (fun t j' o'' m'' g1 g2 g3 => ?_) (fun t ht => ne (dne hj hji ht)) (fun h t d x hx => ?_) rfl
    · have : dn.testBit j' = true := I.top j o' m' hj hd' j' g3
      exact ne (dne g1 (by rintro rfl; rw [hi] at this; cases this) g2)
    · subst hme; simp at h
end
end Go.AE
end

section
namespace Go.AE
open Go
set_option linter.unusedSimpArgs false
set_option linter.unusedVariables false
section
variable {T : Program} {B : Base} {C : Ctx} {st st' : St} {a : Act} {w w' : World} {o : Oper}
variable {CALL : FuncId → List D → List Blk → (Res → List Blk → Prop) → Prop} {DFR : List (FuncId × List D) → Ex → List Blk → (Ex → List Blk → Prop) → Prop} {esc ap : List Tmp} {ops : List Oper}

theorem fail_elim {x : Prop} (h : (AP CALL DFR).fail) : x := False.elim h

/-- what may be carried out at any time, up to the next event -/
theorem settle (hS : Static ops) {al : Nat} {k : Ex → St → Prop} {X : Nat → Prop} {S0 : List D} {cur : St} : ∀ (rest : List Ent) (dn me : Nat) (Sc : St), Inv T CALL DFR esc ap ops X dn me rest S0 Sc cur →
    edraw T (AP CALL DFR) esc ap ops al dn me rest Sc k → ∃ dn' me' rest' Sc', Inv T CALL DFR esc ap ops X dn' me' rest' S0 Sc' cur ∧ edraw T (AP CALL DFR) esc ap ops al dn' me' rest' Sc' k ∧
      (∀ i o m r, rest' = (i, o, m) :: r → neutral T ap o = false ∧ isA esc o = false)
  | [], dn, me, Sc, I, h => ⟨dn, me, [], Sc, I, h, by simp⟩
  | (i, o, m) :: rest, dn, me, Sc, I, h => by
    cases hn : neutral T ap o with
    | true =>
      simp only [edraw] at h
      split at h
      · exact fail_elim h
      rename_i hc
      simp only [Bool.or_eq_true, bne_iff_ne, ne_eq, not_or, Bool.not_eq_true, Decidable.not_not] at hc
      rcases wantedD_imp h with ⟨h1, h2⟩ | ⟨h1, h2⟩
      · obtain ⟨v, h3, h4⟩ := valF_det (T := T) (CALL := CALL) (DFR := DFR) (esc := esc) (ap := ap) (st := Sc) hn _ h1
        refine settle hS rest _ _ _ (I.neut hS hc.1 hc.2 hn _ ?_ fun s e1 e2 => ?_) h3
        · split
          · exact .inr rfl
          · exact .inl rfl
        · rw [wantedD_congr e1]
          refine h2 _ _ ?_
          rw [eop_congr hn (agree_of e1) ?_]
          · exact cast (congrArg (valF T CALL DFR esc ap Sc o) (by funext v'; simp)) h4
          · intro t x hx
            have hxx := agree_of (o := o) e1 x (by simp [hx, Op.operands])
            by_cases hmem : isMem Sc o = true
            · cases hld : loadD T Sc t (opdD Sc.r x) with
              | some d =>
                rw [← hxx] at hld ⊢
                refine e2 ?_ t x d hx hld
                rw [if_pos hmem]; exact testBit_or_pow.2 (.inr rfl)
              | none =>
                exfalso
                simp only [isMem, hx] at hmem
                have hia : inAp ap o.dst = false := by have := hn; simp only [neutral, hx] at this; simpa using this
                have h5 := h4
                unfold valF eop at h5
                rw [hx] at h5
                simp only [hia, Bool.false_and, Bool.false_eq_true, if_false, hld] at h5
                split at h5
                · exact h5
                · split at h5
                  · rename_i hp; rw [hp] at hmem; simp at hmem
                  · rw [hld] at h5; exact h5
            · simp only [isMem, hx] at hmem
              split at hmem
              · rename_i p hp; rw [hp]; rfl
              · simp at hmem
      · refine settle hS rest _ _ _ (I.neut hS hc.1 hc.2 hn _ (.inl rfl) fun s e1 e2 => ?_) h1
        rw [wantedD_congr e1]
        exact h2 _ _ rfl
    | false =>
      cases ha : isA esc o with
      | true =>
        simp only [edraw] at h
        split at h
        · exact fail_elim h
        rename_i hc
        simp only [Bool.or_eq_true, bne_iff_ne, ne_eq, not_or, Bool.not_eq_true, Decidable.not_not] at hc
        simp only [hn, ha, if_true, Bool.false_eq_true, if_false] at h
        split at h
        case isFalse => exact fail_elim h
        rename_i hme
        simp only [beq_iff_eq] at hme
        obtain ⟨t, d, e1, e2, e3, e4, e5⟩ := isA_spec ha
        unfold eop at h
        rw [e1] at h
        simp only [e2] at h
        split at h
        case h_2 => exact fail_elim h
        rename_i d' z hd' hz
        simp only [Option.some.injEq] at hd'; subst hd'
        rw [if_neg (by rw [e3]; simp)] at h
        split at h
        case isFalse => exact fail_elim h
        rename_i hlt
        exact settle hS rest _ _ _ (I.alloc hS hc.1 hc.2 ha hme e1 e2 hz hlt) h
      | false => exact ⟨dn, me, _, Sc, I, h, by intro i' o' m' r e; simp only [List.cons.injEq, Prod.mk.injEq] at e; obtain ⟨⟨rfl, rfl, rfl⟩, rfl⟩ := e; exact ⟨hn, ha⟩⟩

/-- the registers that an operation looks at are those of the text's order -/
theorem Inv.looks_eq (hS : Static ops) {X : Nat → Prop} {dn me : Nat} {rest : List Ent} {S0 : List D} {Sc cur : St} {i m : Nat}
    (I : Inv T CALL DFR esc ap ops X dn me rest S0 Sc cur) (hit : (i, o, m) ∈ tabOf ops) (hX : ¬ X i) (hcl : Closed ops X) (hp : ∀ e ∈ o.after, Region.binds .any e = true → X e.on) :
    ∀ t ∈ looks ops o,
     ((∃ j o' m', (j, o', m') ∈ tabOf ops ∧ o'.dst = some t ∧ m.testBit j = true ∧ j ≠ i) → getL cur.r t = getL Sc.r t) ∧
     ((∀ j o' m', (j, o', m') ∈ tabOf ops → o'.dst = some t → j ≠ i → m.testBit j = false) → getL cur.r t = getL S0 t) := by
  intro t ht
  refine ⟨fun ⟨j, o', m', g1, g2, g3, g4⟩ => I.regX t j o' m' g1 ((tab_spec hit).2.2 X hcl hp j g3) g2, fun h => I.regN t fun j o' m' g1 gX g2 => ?_⟩
  have hji : j ≠ i := by rintro rfl; exact hX gX
  rcases hS.look i o m hit t ht j o' m' g1 g2 hji with g | g
  · rw [h j o' m' g1 g2 hji] at g; cases g
  · exact hX ((tab_spec g1).2.2 X hcl (hcl j o' gX (tab_spec g1).1) i g)

theorem Inv.looks_ev (hS : Static ops) {X : Nat → Prop} {dn me : Nat} {rest : List Ent} {S0 : List D} {Sc cur : St} {i m : Nat}
    (I : Inv T CALL DFR esc ap ops X dn me rest S0 Sc cur) (hit : (i, o, m) ∈ tabOf ops) (hi : dn.testBit i = false) (hcl : Closed ops X) (hp : ∀ e ∈ o.after, Region.binds .any e = true → X e.on) :
    ∀ t ∈ looks ops o, getL cur.r t = getL Sc.r t := by
  have hX : ¬ X i := fun h => by have := I.XD i o m hit h; rw [hi] at this; cases this
  intro t ht
  obtain ⟨h1, h2⟩ := I.looks_eq hS hit hX hcl hp t ht
  by_cases hex : ∃ j' o' m', (j', o', m') ∈ tabOf ops ∧ o'.dst = some t ∧ m.testBit j' = true ∧ j' ≠ i
  · exact h1 hex
  · rw [h2 fun j' o' m' g1 g2 g4 => by
      cases g3 : m.testBit j' with
      | false => rfl
      | true => exact absurd ⟨j', o', m', g1, g2, g3, g4⟩ hex]
    refine (I.regD t fun j' o' m' g1 gd g2 => ?_).symm
    have g4 : j' ≠ i := by rintro rfl; rw [hi] at gd; cases gd
    rcases hS.look i o m hit t ht j' o' m' g1 g2 g4 with g3 | g3
    · exact hex ⟨j', o', m', g1, g2, g3, g4⟩
    · have := I.top j' o' m' g1 gd i g3
      rw [hi] at this; cases this

/-- an operation that waited is carried out -/
theorem Inv.late (hS : Static ops) {X : Nat → Prop} {dn me : Nat} {rest : List Ent} {S0 : List D} {Sc cur : St} {i m : Nat} {v : D}
    (I : Inv T CALL DFR esc ap ops X dn me rest S0 Sc cur) (hit : (i, o, m) ∈ tabOf ops) (hi : dn.testBit i = true) (hn : neutral T ap o = true) (hf : Fin o Sc v) :
    Inv T CALL DFR esc ap ops (fun j => X j ∨ j = i) dn me rest S0 Sc (putR cur o.dst v) := by
  have hnA : ∀ {j o' m'}, (j, o', m') ∈ tabOf ops → isA esc o' = true → j ≠ i := fun h1 h2 e => by
    subst e; obtain ⟨rfl, rfl⟩ := tab_uniq hit h1; rw [isA_neutral h2] at hn; cases hn
  refine { len := by rw [length_putR]; exact I.len, lenb := by rw [putR_b]; exact I.lenb, h := by rw [putR_h]; exact I.h, df := by rw [putR_df]; exact I.df,
           XD := ?_, ev := fun j o' m' hj hd hX => I.ev j o' m' hj hd fun h => hX (.inl h), top := I.top, rst := I.rst, cov := I.cov, regX := ?_, regN := ?_, regD := I.regD, bAll := ?_,
           bNone := ?_, bNone2 := I.bNone2, bLive := fun j o' m' hj ha hd hX => I.bLive j o' m' hj ha hd fun h => hX (.inl h), pend := fun j o' m' hj hd hX => I.pend j o' m' hj hd fun h => hX (.inl h) }
  · rintro j o' m' hj (h | rfl)
    · exact I.XD j o' m' hj h
    · exact hi
  · rintro t j o' m' hj hX ht
    by_cases hji : j = i
    · subst hji
      obtain ⟨rfl, rfl⟩ := tab_uniq hit hj
      rw [ht]
      by_cases hlt : t < cur.r.length
      · rw [getL_putR_eq hlt, hf t ht (by rw [← I.len]; exact hlt)]
      · have h1 : (putR cur (some t) v).r.length ≤ t := by rw [length_putR]; exact Nat.le_of_not_lt hlt
        have h2 : Sc.r.length ≤ t := by rw [← I.len]; exact Nat.le_of_not_lt hlt
        rw [getL_eq, getL_eq, List.getElem?_eq_none h1, List.getElem?_eq_none h2]
    · rw [getL_putR_ne (fun e => hS.dst _ _ _ hit _ _ _ hj hji _ e ht)]
      exact I.regX t j o' m' hj (hX.resolve_right hji) ht
  · intro t h
    rw [getL_putR_ne (h i o m hit (.inr rfl))]
    exact I.regN t fun j o' m' hj hX => h j o' m' hj (.inl hX)
  · intro s hs
    rw [putR_b]
    refine I.bAll s fun j o' m' hj ha hX => hs j o' m' hj ha ?_
    rintro (h | h)
    · exact hX h
    · exact hnA hj ha h
  · intro j o' m' d hj ha hX hd
    have := I.bNone j o' m' d hj ha (fun h => hX (.inl h)) hd
    unfold boxed at this ⊢; rw [putR_b]; exact this

theorem Inv.lateA (hS : Static ops) {X : Nat → Prop} {dn me : Nat} {rest : List Ent} {S0 : List D} {Sc cur : St} {i m d : Nat} {z : P}
    (I : Inv T CALL DFR esc ap ops X dn me rest S0 Sc cur) (hit : (i, o, m) ∈ tabOf ops) (hi : dn.testBit i = true) (ha : isA esc o = true) (hX : ¬ X i)
    (hd : o.dst = some d) (hlt : d < Sc.b.length) (hb : getL Sc.b d = some (.live (z.cells.map .p))) (hr : d < Sc.r.length → getL Sc.r d = some (.lp d 0)) :
    Inv T CALL DFR esc ap ops (fun j => X j ∨ j = i) dn me rest S0 Sc (putR (newBox cur d (z.cells.map .p)) (some d) (.lp d 0)) := by
  have hnb : boxed cur d = false := I.bNone i o m d hit ha hX hd
  have hnr : (newBox cur d (z.cells.map .p)).r = cur.r := by simp [newBox, hnb]
  have bb : ∀ s, d ≠ s → getL (putR (newBox cur d (z.cells.map .p)) (some d) (.lp d 0)).b s = getL cur.b s := fun s h => by
    rw [putR_b]; simp only [newBox, getL_setL]; rw [if_neg (by rintro ⟨h', _⟩; exact h h')]
  have dne : ∀ {j o' m' t}, (j, o', m') ∈ tabOf ops → j ≠ i → o'.dst = some t → d ≠ t := fun h1 h2 h3 e => hS.dst _ _ _ hit _ _ _ h1 h2 _ (by rw [hd, e]) h3
  have ne : ∀ {t}, d ≠ t → getL (putR (newBox cur d (z.cells.map .p)) (some d) (.lp d 0)).r t = getL cur.r t := fun h => by
    rw [getL_putR_ne (by simpa using h), hnr]
  refine { len := by rw [length_putR, hnr]; exact I.len, lenb := by rw [putR_b]; simp only [newBox, length_setL]; exact I.lenb, h := by rw [putR_h]; exact I.h, df := by rw [putR_df]; exact I.df,
           XD := ?_, ev := fun j o' m' hj hd hX => I.ev j o' m' hj hd fun h => hX (.inl h), top := I.top, rst := I.rst, cov := I.cov, regX := ?_, regN := ?_, regD := I.regD, bAll := ?_,
           bNone := ?_, bNone2 := I.bNone2, bLive := fun j o' m' hj ha hd hX => I.bLive j o' m' hj ha hd fun h => hX (.inl h), pend := fun j o' m' hj hd hX => I.pend j o' m' hj hd fun h => hX (.inl h) }
  · rintro j o' m' hj (h | rfl)
    · exact I.XD j o' m' hj h
    · exact hi
  · rintro t j o' m' hj hX ht
    by_cases hji : j = i
    · subst hji
      obtain ⟨rfl, rfl⟩ := tab_uniq hit hj
      rw [hd] at ht
      simp only [Option.some.injEq] at ht; subst ht
      by_cases hlt : d < cur.r.length
      · rw [getL_putR_eq (by rw [hnr]; exact hlt), hr (by rw [← I.len]; exact hlt)]
      · have h1 : (putR (newBox cur d (z.cells.map .p)) (some d) (.lp d 0)).r.length ≤ d := by rw [length_putR, hnr]; exact Nat.le_of_not_lt hlt
        have h2 : Sc.r.length ≤ d := by rw [← I.len]; exact Nat.le_of_not_lt hlt
        rw [getL_eq, getL_eq, List.getElem?_eq_none h1, List.getElem?_eq_none h2]
    · rw [ne (dne hj hji ht)]
      exact I.regX t j o' m' hj (hX.resolve_right hji) ht
  · intro t h
    rw [ne (by rintro rfl; exact h i o m hit (.inr rfl) hd)]
    exact I.regN t fun j o' m' hj hX => h j o' m' hj (.inl hX)
  · intro s hs
    by_cases hs' : d = s
    · subst hs'
      rw [hb, putR_b]; simp only [newBox, getL_setL]; rw [if_pos ⟨trivial, by rw [I.lenb]; exact hlt⟩]
    · rw [bb s hs']
      refine I.bAll s fun j o' m' hj ha' hX' ht => ?_
      by_cases hji : j = i
      · subst hji
        obtain ⟨rfl, rfl⟩ := tab_uniq hit hj
        rw [hd] at ht; exact hs' (Option.some.inj ht)
      · exact hs j o' m' hj ha' (fun h => by rcases h with h | h; exact hX' h; exact hji h) ht
  · intro j o' m' d' hj ha' hX' ht
    have hji : j ≠ i := fun e => hX' (.inr e)
    have := I.bNone j o' m' d' hj ha' (fun h => hX' (.inl h)) ht
    unfold boxed at this ⊢; rw [bb d' (dne hj hji ht)]; exact this
end
end Go.AE
end

section
namespace Go.AE
open Go
set_option linter.unusedSimpArgs false
set_option linter.unusedVariables false
section
variable {T : Program} {B : Base} {C : Ctx} {st st' : St} {a : Act} {w w' : World} {o : Oper}
variable {CALL : FuncId → List D → List Blk → (Res → List Blk → Prop) → Prop} {DFR : List (FuncId × List D) → Ex → List Blk → (Ex → List Blk → Prop) → Prop} {esc ap : List Tmp} {ops : List Oper}

theorem getL_ext {α : Type} {l m : List α} (h : ∀ i, getL l i = getL m i) : l = m :=
  List.ext_getElem? fun i => by rw [← getL_eq, ← getL_eq]; exact h i

theorem maskA {i m : Nat} (hit : (i, o, m) ∈ tabOf ops) (ha : isA esc o = true) (j : Nat) : m.testBit j = false := by
  cases h : m.testBit j with
  | false => rfl
  | true =>
    obtain ⟨t, d, _, _, _, e, _⟩ := isA_spec ha
    exact ((tab_spec hit).2.2 (fun _ => False) (by intro j o hj; exact hj.elim) (by rw [e]; simp) j h).elim

theorem Inv.allA {X : Nat → Prop} {dn me : Nat} {rest : List Ent} {S0 : List D} {Sc cur : St} {i m : Nat}
    (I : Inv T CALL DFR esc ap ops X dn me ((i, o, m) :: rest) S0 Sc cur) (hA : isA esc o = false) (hev : ∀ q ∈ rest, q.2.2.testBit i = true) :
    ∀ j o' m', (j, o', m') ∈ tabOf ops → isA esc o' = true → dn.testBit j = true := by
  intro j o' m' hj ha
  rcases I.cov j o' m' hj with h | h
  · exact h
  · rcases List.mem_cons.1 h with h | h
    · simp only [Prod.mk.injEq] at h; obtain ⟨_, rfl, _⟩ := h; rw [hA] at ha; cases ha
    · have : m'.testBit i = true := hev _ h
      rw [maskA hj ha i] at this; cases this

/-- all are done that came before -/
theorem Inv.same {X : Nat → Prop} {dn me : Nat} {rest : List Ent} {S0 : List D} {Sc cur : St}
    (I : Inv T CALL DFR esc ap ops X dn me rest S0 Sc cur) (hA : ∀ j o' m', (j, o', m') ∈ tabOf ops → isA esc o' = true → X j)
    (hall : ∀ j o' m', (j, o', m') ∈ tabOf ops → dn.testBit j = true → X j) : cur = Sc := by
  have e1 : cur.r = Sc.r := getL_ext fun t => by
    by_cases hex : ∃ i o m, (i, o, m) ∈ tabOf ops ∧ X i ∧ o.dst = some t
    · obtain ⟨i, o, m, h1, h2, h3⟩ := hex; exact I.regX t i o m h1 h2 h3
    · rw [I.regN t fun i o m h1 h2 h3 => hex ⟨i, o, m, h1, h2, h3⟩, I.regD t fun i o m h1 h2 h3 => hex ⟨i, o, m, h1, hall i o m h1 h2, h3⟩]
  have e2 : cur.b = Sc.b := getL_ext fun s => I.bAll s fun i o m h1 h2 h3 => absurd (hA i o m h1 h2) h3
  have e3 := I.h
  have e4 := I.df
  cases cur; cases Sc
  simp only at e1 e2 e3 e4
  subst e1 e2 e3 e4
  rfl

theorem Inv.full {X : Nat → Prop} {dn me : Nat} {rest : List Ent} {S0 : List D} {Sc cur : St} {i m : Nat}
    (I : Inv T CALL DFR esc ap ops X dn me ((i, o, m) :: rest) S0 Sc cur) (hm : (m &&& dn) = m) (hA : ∀ j o' m', (j, o', m') ∈ tabOf ops → isA esc o' = true → X j)
    (hall : ∀ j o' m', (j, o', m') ∈ tabOf ops → dn.testBit j = true → X j) (st' : St) :
    Inv T CALL DFR esc ap ops (fun j => X j ∨ j = i) (dn ||| 2 ^ i) me rest st'.r st' st' := by
  have hit : (i, o, m) ∈ tabOf ops := I.rst _ (by simp)
  have up : ∀ j, dn.testBit j = true → (dn ||| 2 ^ i).testBit j = true := fun j h => testBit_or_pow.2 (.inl h)
  have no : ∀ {j o' m'}, (j, o', m') ∈ tabOf ops → (dn ||| 2 ^ i).testBit j = true → ¬ (X j ∨ j = i) → False := fun hj hd hX => by
    rcases testBit_or_pow.1 hd with h | rfl
    · exact hX (.inl (hall _ _ _ hj h))
    · exact hX (.inr rfl)
  refine { len := rfl, lenb := rfl, h := rfl, df := rfl, XD := ?_, ev := fun j o' m' hj hd hX => (no hj hd hX).elim, top := ?_, rst := fun q hq => I.rst q (by simp [hq]), cov := ?_, regX := fun _ _ _ _ _ _ _ => rfl,
           regN := fun _ _ => rfl, regD := fun _ _ => rfl, bAll := fun _ _ => rfl, bNone := fun j o' m' d hj ha hX => absurd (.inl (hA j o' m' hj ha)) hX, bNone2 := ?_,
           bLive := fun j o' m' hj ha hd hX => (no hj hd hX).elim, pend := fun j o' m' hj hd hX => (no hj hd hX).elim }
  · rintro j o' m' hj (h | rfl)
    · exact up j (I.XD j o' m' hj h)
    · exact testBit_or_pow.2 (.inr rfl)
  · intro j o' m' hj hd k hk
    rcases testBit_or_pow.1 hd with h | rfl
    · exact up k (I.top j o' m' hj h k hk)
    · obtain ⟨rfl, rfl⟩ := tab_uniq hit hj
      exact up k (and_sub hm hk)
  · intro j o' m' hj
    rcases I.cov j o' m' hj with h | h
    · exact .inl (up j h)
    · rcases List.mem_cons.1 h with h | h
      · simp only [Prod.mk.injEq] at h
        exact .inl (testBit_or_pow.2 (.inr h.1.symm))
      · exact .inr h
  · intro j o' m' d hj ha hd
    rw [up j (I.XD j o' m' hj (hA j o' m' hj ha))] at hd; cases hd

theorem loadD_ext {s st : St} {e : List Blk} (hb : s.b = st.b) (hh : s.h = st.h ++ e) {t : TypeId} {d x : D} (h : loadD T st t d = some x) : loadD T s t d = some x := by
  unfold loadD at h ⊢
  cases d with
  | lp k off => rw [hb]; exact h
  | ref id off =>
    simp only [] at h ⊢
    have : id < st.h.length := by
      cases hg : getL st.h id with
      | none => rw [hg] at h; simp at h
      | some b => exact getL_lt hg
    rw [hh, getL_append_left this]; exact h
  | _ => simp at h

theorem Inv.part (hS : Static ops) {X : Nat → Prop} {dn me : Nat} {rest : List Ent} {S0 : List D} {Sc cur st' cur1 : St} {i m : Nat} (v : D)
    (I : Inv T CALL DFR esc ap ops X dn me ((i, o, m) :: rest) S0 Sc cur) (hi : dn.testBit i = false) (hm : (m &&& dn) = m) (hA : isA esc o = false)
    (hr : st'.r = Sc.r) (hr' : cur1.r = cur.r) (hdf : st'.df = Sc.df) (hdf' : cur1.df = cur.df) (hlb : cur1.b.length = st'.b.length) (hh : cur1.h = st'.h)
    (hmem : (st'.b = Sc.b ∧ (∃ e, st'.h = Sc.h ++ e) ∧ cur1.b = cur.b) ∨ ((∀ j o' m', (j, o', m') ∈ tabOf ops → isA esc o' = true → X j) ∧ cur1.b = st'.b ∧ ∀ j o' m', (j, o', m') ∈ tabOf ops → dn.testBit j = true → ¬ X j → me.testBit j = false)) :
    Inv T CALL DFR esc ap ops (fun j => X j ∨ j = i) (dn ||| 2 ^ i) me rest S0 (putR st' o.dst v) (putR cur1 o.dst v) := by
  have hit : (i, o, m) ∈ tabOf ops := I.rst _ (by simp)
  have up : ∀ j, dn.testBit j = true → (dn ||| 2 ^ i).testBit j = true := fun j h => testBit_or_pow.2 (.inl h)
  have old : ∀ {j}, (dn ||| 2 ^ i).testBit j = true → ¬ (X j ∨ j = i) → dn.testBit j = true ∧ ¬ X j ∧ j ≠ i := fun hd hX =>
    ⟨(testBit_or_pow.1 hd).resolve_right fun e => hX (.inr e.symm), fun h => hX (.inl h), fun h => hX (.inr h)⟩
  have dne : ∀ {j o' m' t}, (j, o', m') ∈ tabOf ops → j ≠ i → o'.dst = some t → o.dst ≠ some t := fun h1 h2 h3 e => hS.dst _ _ _ hit _ _ _ h1 h2 _ e h3
  have hnA : ∀ {j o' m'}, (j, o', m') ∈ tabOf ops → isA esc o' = true → j ≠ i := fun h1 h2 e => by
    subst e; obtain ⟨rfl, rfl⟩ := tab_uniq hit h1; rw [hA] at h2; cases h2
  have l1 : cur1.r.length = st'.r.length := by rw [hr, hr']; exact I.len
  refine { len := by rw [length_putR, length_putR]; exact l1, lenb := by rw [putR_b, putR_b]; exact hlb, h := by rw [putR_h, putR_h]; exact hh, df := by rw [putR_df, putR_df, hdf, hdf']; exact I.df,
           XD := ?_, ev := fun j o' m' hj hd hX => I.ev j o' m' hj (old hd hX).1 (old hd hX).2.1, top := ?_, rst := fun q hq => I.rst q (by simp [hq]), cov := ?_, regX := ?_,
           regN := ?_, regD := ?_, bAll := ?_, bNone := ?_, bNone2 := ?_, bLive := ?_, pend := ?_ }
  · rintro j o' m' hj (h | rfl)
    · exact up j (I.XD j o' m' hj h)
    · exact testBit_or_pow.2 (.inr rfl)
  · intro j o' m' hj hd k hk
    rcases testBit_or_pow.1 hd with h | rfl
    · exact up k (I.top j o' m' hj h k hk)
    · obtain ⟨rfl, rfl⟩ := tab_uniq hit hj
      exact up k (and_sub hm hk)
  · intro j o' m' hj
    rcases I.cov j o' m' hj with h | h
    · exact .inl (up j h)
    · rcases List.mem_cons.1 h with h | h
      · simp only [Prod.mk.injEq] at h
        exact .inl (testBit_or_pow.2 (.inr h.1.symm))
      · exact .inr h
  · intro t j o' m' hj hX ht
    by_cases hji : j = i
    · subst hji
      obtain ⟨rfl, rfl⟩ := tab_uniq hit hj
      exact getL_putR_same l1 (.inl ht)
    · rw [getL_putR_ne (dne hj hji ht), getL_putR_ne (dne hj hji ht), hr, hr']
      exact I.regX t j o' m' hj (hX.resolve_right hji) ht
  · intro t h
    rw [getL_putR_ne (h i o m hit (.inr rfl)), hr']
    exact I.regN t fun j o' m' hj hX => h j o' m' hj (.inl hX)
  · intro t h
    rw [getL_putR_ne (h i o m hit (testBit_or_pow.2 (.inr rfl))), hr]
    exact I.regD t fun j o' m' hj hd => h j o' m' hj (up j hd)
  · intro s hs
    rw [putR_b, putR_b]
    rcases hmem with ⟨e1, _, e2⟩ | ⟨_, e, _⟩
    · rw [e1, e2]
      exact I.bAll s fun j o' m' hj ha hX => hs j o' m' hj ha fun h => h.elim hX (hnA hj ha)
    · rw [e]
  · intro j o' m' d hj ha hX hd
    rcases hmem with ⟨e1, _, e2⟩ | ⟨hall, _⟩
    · have := I.bNone j o' m' d hj ha (fun h => hX (.inl h)) hd
      unfold boxed at this ⊢; rw [putR_b, e2]; exact this
    · exact absurd (.inl (hall j o' m' hj ha)) hX
  · intro j o' m' d hj ha hd' hd
    have hdj : dn.testBit j = false := by
      cases e : dn.testBit j with
      | false => rfl
      | true => rw [up j e] at hd'; cases hd'
    rcases hmem with ⟨e1, _, e2⟩ | ⟨hall, _⟩
    · have := I.bNone2 j o' m' d hj ha hdj hd
      unfold boxed at this ⊢; rw [putR_b, e1]; exact this
    · rw [I.XD j o' m' hj (hall j o' m' hj ha)] at hdj; cases hdj
  · intro j o' m' hj ha hd hX
    obtain ⟨h1, h2, h3⟩ := old hd hX
    rcases hmem with ⟨e1, _, e2⟩ | ⟨hall, _⟩
    · obtain ⟨d, t, z, g1, g2, g3, g4, g5, g6⟩ := I.bLive j o' m' hj ha h1 h2
      exact ⟨d, t, z, g1, g2, g3, by rw [putR_b, e1]; exact g4, by rw [putR_b, e1]; exact g5, fun h => by rw [getL_putR_ne (dne hj h3 g1), hr]; exact g6 (by rwa [length_putR, hr] at h)⟩
    · exact absurd (hall j o' m' hj ha) h2
  · intro j o' m' hj hd hX hnj
    obtain ⟨h1, h2, h3⟩ := old hd hX
    refine (I.pend j o' m' hj h1 h2 hnj).persist (by rw [length_putR, hr]) (fun t j' o'' m'' g1 g2 g3 => ?_) (fun t ht => by rw [getL_putR_ne (dne hj h3 ht), hr]) (fun h t d x hx => ?_) rfl
    · have : dn.testBit j' = true := I.top j o' m' hj h1 j' g3
      rw [getL_putR_ne (dne g1 (by rintro rfl; rw [hi] at this; cases this) g2), hr]
    · rcases hmem with ⟨e1, e3, e2⟩ | ⟨_, _, hall⟩
      · obtain ⟨e, e3⟩ := e3
        exact loadD_ext (by rw [putR_b]; exact e1) (by rw [putR_h]; exact e3) hx
      · rw [hall j o' m' hj h1 h2] at h; cases h

theorem Inv.wipe {X : Nat → Prop} {dn me : Nat} {rest : List Ent} {S0 : List D} {Sc cur : St}
    (I : Inv T CALL DFR esc ap ops X dn me rest S0 Sc cur) : wipe ops cur = wipe ops Sc := by
  have e1 : (AE.wipe ops cur).r = (AE.wipe ops Sc).r := getL_ext fun t => by
    simp only [AE.wipe, getL_wipeR, List.length_map, I.len, getL_map]
    by_cases ht : t ∈ dstsOf ops
    · by_cases hl : t < Sc.r.length
      · rw [if_pos ⟨ht, hl⟩, if_pos ⟨ht, hl⟩]
      · have h1 : getL cur.r t = none := by rw [getL_eq]; exact List.getElem?_eq_none (by rw [I.len]; exact Nat.le_of_not_lt hl)
        have h2 : getL Sc.r t = none := by rw [getL_eq]; exact List.getElem?_eq_none (Nat.le_of_not_lt hl)
        rw [h1, h2]
    · have hnd : ∀ i o m, (i, o, m) ∈ tabOf ops → o.dst ≠ some t := fun i o m h e => ht (by
        have := (tab_spec h).1
        rw [getL_eq] at this
        exact List.mem_filterMap.2 ⟨o, List.mem_of_getElem? this, e⟩)
      rw [I.regN t fun i o m h _ => hnd i o m h, I.regD t fun i o m h _ => hnd i o m h]
  have e2 : (AE.wipe ops cur).b = (AE.wipe ops Sc).b := by
    simp only [AE.wipe]
    rw [List.map_const', List.map_const', I.lenb]
  have e3 : (AE.wipe ops cur).h = (AE.wipe ops Sc).h := I.h
  have e4 : (AE.wipe ops cur).df = (AE.wipe ops Sc).df := I.df
  revert e1 e2 e3 e4
  generalize AE.wipe ops cur = x
  generalize AE.wipe ops Sc = y
  intro e1 e2 e3 e4
  cases x; cases y
  simp only at e1 e2 e3 e4
  subst e1 e2 e3 e4
  rfl

theorem storeD_frame {t : TypeId} {v d : D} (h : storeD T st t v d = some st') : st'.r = st.r ∧ st'.df = st.df ∧ st'.b.length = st.b.length ∧
    ∀ s : St, s.b = st.b → s.h = st.h → storeD T s t v d = some { s with b := st'.b, h := st'.h } := by
  unfold storeD at h ⊢
  cases d with
  | lp s off =>
    simp only [] at h ⊢
    split at h
    · split at h
      · rename_i e hc
        simp only [Option.some.injEq] at h; subst h
        exact ⟨rfl, rfl, by simp [length_setL], fun s' h1 h2 => by rw [h1, e]; simp only []; rw [if_pos hc, ← h2]⟩
      · cases h
    · cases h
  | ref id off =>
    simp only [] at h ⊢
    split at h
    · split at h
      · rename_i e hc
        simp only [Option.some.injEq] at h; subst h
        exact ⟨rfl, rfl, rfl, fun s' h1 h2 => by rw [h2, e]; simp only []; rw [if_pos hc, ← h1]⟩
      · cases h
    · cases h
  | _ => cases h
end
end Go.AE
end

section
namespace Go.AE
open Go
set_option linter.unusedSimpArgs false
set_option linter.unusedVariables false
section
variable {T : Program} {B : Base} {C : Ctx} {st st' cur : St} {a : Act} {w w' : World} {o : Oper}
variable {CALL : FuncId → List D → List Blk → (Res → List Blk → Prop) → Prop} {DFR : List (FuncId × List D) → Ex → List Blk → (Ex → List Blk → Prop) → Prop} {esc ap : List Tmp}

def CallMono (CALL : FuncId → List D → List Blk → (Res → List Blk → Prop) → Prop) : Prop :=
  ∀ f ds h (K K' : Res → List Blk → Prop), (∀ r h', K r h' → K' r h') → CALL f ds h K → CALL f ds h K'

theorem callMono_ok : CallMono (CallOK T) := fun f ds h K K' hk hc C w vs h1 h2 h3 h4 =>
  (hc C w vs h1 h2 h3 h4).mono fun e w' ⟨C', r, h', h5, h6⟩ => ⟨C', r, h', hk r h' h5, h6⟩

theorem wpOp_of (hN : NoNum T) (hC : CallSound T CALL) {ops : Array Oper} {i : Nat} (hi : ops[i]? = some o) (R : Rel B C cur a w []) {K : D → St → Prop} {Kp : P → St → Prop} {N : Prop}
    (h : wantedD (AP CALL DFR) ops.toList cur o (eop T (AP CALL DFR) esc ap cur o K Kp) N) {W : Act → World → Prop} {Q : Exit → Act → World → Prop}
    (h1 : ∀ d st' C' a' w', K d st' → Rel B C' (putR st' o.dst d) a' w' [] → W a' w')
    (h2 : ∀ p st' C' v a' w', Kp p st' → Rel B C' st' a' w' [(.p p, v)] → Q (.panic [{ v, recovered := false }]) a' w')
    (h3 : ∀ C' a' w', N → Rel B C' (putR cur o.dst (.tup [])) a' w' [] → W a' w') : wpOp T ops Q i W a w := by
  unfold wpOp
  rw [hi]
  simp only []
  rcases wanted_ok R h with ⟨hw, h'⟩ | ⟨hw, h'⟩
  · rw [if_pos hw]
    left
    refine Oper.wp_mono2 (fun a' w2 hk => ?_) (fun e a' w2 hq => ?_) (eop_sound hN hC R h')
    · obtain ⟨d, st', C', v, a0, hk, R', rfl⟩ := hk
      exact h1 d st' C' _ _ hk R'.put
    · obtain ⟨p, st', C', v, rfl, hk, R'⟩ := hq
      exact h2 p st' C' v _ _ hk R'
  · rw [if_neg (by rw [hw]; simp)]
    exact h3 C _ _ h' (R.push (d := .tup []) (v := undef) rfl (rep_undef C)).put

theorem wantedD_map {ops : List Oper} {st : St} {yes no yes' no' : Prop} (h : wantedD (AP CALL DFR) ops st o yes no) (h1 : yes → yes') (h2 : no → no') : wantedD (AP CALL DFR) ops st o yes' no' := by
  rcases wantedD_imp h with ⟨g, k⟩ | ⟨g, k⟩
  · exact k _ _ (h1 g)
  · exact k _ _ (h2 g)

theorem pcalln_elim {f : FuncId} {ds : List D} {h : List Blk} {k : Res → List Blk → Prop} (x : pcalln CALL f ds h k) : ∃ r e, CALL f ds h (fun r' h' => r' = r ∧ h' = h ++ e) ∧ k r (h ++ e) := by
  unfold pcalln at x; exact x

theorem sealAll_okArgs (st : St) : ∀ (ds : List D), okArgs ds = true → sealAll st ds = some (ds.map downD, st)
  | [], _ => rfl
  | d :: ds, h => by
    simp only [okArgs, Bool.and_eq_true] at h
    have : sealSt st d = some (downD d, st) := by
      cases d <;> simp_all [sealSt, okArg]
    simp only [sealAll, this, sealAll_okArgs st ds h.2, List.map_cons]

theorem calleeOf_congr {r r' : List D} {c : Callee} (h : ∀ f, c = .value f → opdD r f = opdD r' f) : calleeOf r c = calleeOf r' c := by
  cases c with
  | value f => simp only [calleeOf, h f rfl]
  | invoke r m => rfl
  | builtin b => rfl

/-- a call in the midst, as an operation -/
theorem ecallN_eop (hMo : CallMono CALL) {Sc : St} {k : D → List Blk → Prop} {kp : P → List Blk → Prop} (hag : Agree o cur.r Sc.r) (hh : cur.h = Sc.h)
    (h : ecallN T (AP CALL DFR) Sc o k kp) : ∃ (r : Res) (e : List Blk), (match r with | .ret d => k d (Sc.h ++ e) | .pan p => kp p (Sc.h ++ e)) ∧
      eop T (AP CALL DFR) esc ap cur o (fun d s => r = .ret d ∧ s = { cur with h := Sc.h ++ e }) (fun p s => r = .pan p ∧ s = { cur with h := Sc.h ++ e }) := by
  unfold ecallN at h
  split at h
  case h_2 => exact h.elim
  rename_i c hop
  split at h
  case h_2 => exact h.elim
  rename_i f caps hf
  split at h
  · exact h.elim
  rename_i hb
  split at h
  case isFalse => exact h.elim
  rename_i hok
  obtain ⟨r, e, hc, hr⟩ := pcalln_elim h
  refine ⟨r, e, ?_, ?_⟩
  · cases r <;> exact hr
  · obtain ⟨callee, args, argTypes⟩ := c
    cases callee with
    | builtin b => simp [calleeOf] at hf
    | invoke r m => simp [calleeOf] at hf
    | value fo =>
      have e1 : calleeOf cur.r (.value fo) = calleeOf Sc.r (.value fo) := calleeOf_congr fun g e => by
        simp only [Callee.value.injEq] at e; subst e
        exact hag _ (by simp [hop, Op.operands, Call.operands])
      have e2 : args.toList.map (opdD cur.r) = args.toList.map (opdD Sc.r) := List.map_congr_left fun x hx => by
        simp only [Array.mem_toList_iff] at hx
        exact hag _ (by simp [hop, Op.operands, Call.operands, hx])
      unfold eop
      rw [hop]
      simp only [e1, hf, e2]
      rw [if_neg hb, sealAll_okArgs cur _ hok]
      simp only []
      refine hMo _ _ _ _ _ ?_ (by rw [hh]; exact hc)
      rintro r' h' ⟨rfl, rfl⟩
      cases r' with
      | ret d => exact ⟨rfl, rfl⟩
      | pan p => exact ⟨rfl, rfl⟩

theorem estoreN_eop {Sc : St} {k : St → Prop} (hag : Agree o cur.r Sc.r) (hb : cur.b = Sc.b) (hh : cur.h = Sc.h)
    (h : estoreN T (AP CALL DFR) Sc o k) : ∃ st', k st' ∧ st'.r = Sc.r ∧ st'.df = Sc.df ∧ st'.b.length = Sc.b.length ∧
      eop T (AP CALL DFR) esc ap cur o (fun d s => d = .dead ∧ s = { cur with b := st'.b, h := st'.h }) (fun p s => False) := by
  unfold estoreN at h
  split at h
  case h_2 => exact h.elim
  rename_i t ad v hop
  have ea : opdD cur.r ad = opdD Sc.r ad := hag _ (by simp [hop, Op.operands])
  have ev : opdD cur.r v = opdD Sc.r v := hag _ (by simp [hop, Op.operands])
  split at h
  · exact h.elim
  rename_i hown
  split at h
  · exact h.elim
  rename_i hu
  rw [optR_opt] at h
  split at h
  case h_2 => exact h.elim
  rename_i st' hst
  obtain ⟨f1, f2, f3, f4⟩ := storeD_frame hst
  refine ⟨st', h, f1, f2, f3, ?_⟩
  unfold eop
  rw [hop]
  simp only [ea, ev]
  rw [if_neg hu, hown]
  simp only []
  rw [optR_opt, f4 cur hb hh]
  simp

theorem alOf_bit {tab : List Ent} : ∀ (l : List Ent) (s j : Nat), (l.foldl (fun s q => if isA esc q.2.1 then s ||| 2 ^ q.1 else s) s).testBit j = true ↔ s.testBit j = true ∨ ∃ q ∈ l, isA esc q.2.1 = true ∧ q.1 = j
  | [], s, j => by simp
  | q :: l, s, j => by
    rw [List.foldl_cons, alOf_bit (tab := tab) l]
    by_cases h : isA esc q.2.1 = true
    · rw [if_pos h, testBit_or_pow]
      simp only [List.mem_cons]
      constructor
      · rintro ((h1 | h1) | ⟨q', h1, h2, h3⟩)
        · exact .inl h1
        · exact .inr ⟨q, .inl rfl, h, h1⟩
        · exact .inr ⟨q', .inr h1, h2, h3⟩
      · rintro (h1 | ⟨q', rfl | h1, h2, h3⟩)
        · exact .inl (.inl h1)
        · exact .inl (.inr h3)
        · exact .inr ⟨q', h1, h2, h3⟩
    · rw [if_neg h]
      simp only [List.mem_cons]
      constructor
      · rintro (h1 | ⟨q', h1, h2, h3⟩)
        · exact .inl h1
        · exact .inr ⟨q', .inr h1, h2, h3⟩
      · rintro (h1 | ⟨q', rfl | h1, h2, h3⟩)
        · exact .inl h1
        · exact absurd h2 h
        · exact .inr ⟨q', h1, h2, h3⟩

def XOf (listed : Array Bool) (i : Nat) : Prop := listed.getD i false = true
def unl (n : Nat) (listed : Array Bool) : Nat := ((List.range n).filter fun i => !listed.getD i true).length

theorem XOf_set {listed : Array Bool} {i : Nat} (hi : i < listed.size) : XOf (listed.setIfInBounds i true) = fun j => XOf listed j ∨ j = i := by
  funext j
  unfold XOf
  apply propext
  by_cases h : i = j
  · subst h; simp [hi]
  · rw [getD_set_ne false h]
    constructor
    · exact .inl
    · rintro (h1 | h1)
      · exact h1
      · exact absurd h1.symm h

theorem getD_flip {listed : Array Bool} {i : Nat} (hi : i < listed.size) : listed.getD i true = listed.getD i false := by
  simp [Array.getD, hi]

theorem unl_set {n : Nat} {listed : Array Bool} (hs : listed.size = n) {i : Nat} (hi : i < n) (h : ¬ XOf listed i) : unl n (listed.setIfInBounds i true) + 1 = unl n listed := by
  unfold unl
  have key : ∀ (l : List Nat), l.Nodup → (∀ j ∈ l, j < n) → i ∈ l →
      (l.filter fun j => !(listed.setIfInBounds i true).getD j true).length + 1 = (l.filter fun j => !listed.getD j true).length := by
    intro l
    induction l with
    | nil => intro _ _ h; simp at h
    | cons x l ih =>
      intro hn hb hm
      have hx : x < n := hb x (by simp)
      by_cases hxi : x = i
      · subst hxi
        have e1 : (listed.setIfInBounds x true).getD x true = true := by simp [hs, hx]
        have e2 : listed.getD x true = false := by rw [getD_flip (by omega)]; simpa [XOf] using h
        rw [List.filter_cons_of_neg (by rw [e1]; simp), List.filter_cons_of_pos (by rw [e2]; rfl)]
        have hnx := (List.nodup_cons.1 hn).1
        have : (l.filter fun j => !(listed.setIfInBounds x true).getD j true) = l.filter fun j => !listed.getD j true :=
          List.filter_congr fun j hj => by rw [getD_set_ne true (by rintro rfl; exact hnx hj)]
        rw [this]; simp
      · have hm' : i ∈ l := by simpa [Ne.symm hxi] using hm
        have e := ih (List.nodup_cons.1 hn).2 (fun j hj => hb j (by simp [hj])) hm'
        have e3 : (listed.setIfInBounds i true).getD x true = listed.getD x true := getD_set_ne true (Ne.symm hxi)
        rw [List.filter_cons, List.filter_cons, e3]
        by_cases hc : (!listed.getD x true) = true
        · rw [if_pos hc, if_pos hc]
          simp only [List.length_cons]; omega
        · rw [if_neg hc, if_neg hc]
          exact e
  exact key _ List.nodup_range (fun j hj => List.mem_range.1 hj) (List.mem_range.2 hi)
end
end Go.AE
end

section
namespace Go.AE
open Go
set_option linter.unusedSimpArgs false
set_option linter.unusedVariables false
section
variable {T : Program} {B : Base} {C : Ctx} {st st' cur : St} {a : Act} {w w' : World} {o : Oper}
variable {CALL : FuncId → List D → List Blk → (Res → List Blk → Prop) → Prop} {DFR : List (FuncId × List D) → Ex → List Blk → (Ex → List Blk → Prop) → Prop} {esc ap : List Tmp}

theorem Closed.add {ops : List Oper} {X : Nat → Prop} {i : Nat} (h : Closed ops X) (ho : getL ops i = some o) (hp : ∀ e ∈ o.after, Region.binds .any e = true → X e.on) : Closed ops (fun j => X j ∨ j = i) := by
  rintro j o' (hj | rfl) h1 e he hb
  · exact .inl (h j o' hj h1 e he hb)
  · rw [ho] at h1; simp only [Option.some.injEq] at h1; subst h1
    exact .inl (hp e he hb)

theorem draw_main (hN : NoNum T) (hC : CallSound T CALL) (hMo : CallMono CALL) {ops : Array Oper} (hS : Static ops.toList) {al : Nat}
    (hal : ∀ j o m, (j, o, m) ∈ tabOf ops.toList → isA esc o = true → al.testBit j = true) {k : Ex → St → Prop} :
    ∀ (fuel : Nat) (listed : Array Bool) (dn me : Nat) (rest : List Ent) (S0 : List D) (Sc cur : St) (C : Ctx) (a : Act) (w : World), listed.size = ops.size → unl ops.size listed = fuel → Closed ops.toList (XOf listed) →
      Inv T CALL DFR esc ap ops.toList (XOf listed) dn me rest S0 Sc cur → edraw T (AP CALL DFR) esc ap ops.toList al dn me rest Sc k → Rel B C cur a w [] → wpAny T .any ops (QC B k) fuel listed a w := by
  intro fuel
  induction fuel with
  | zero =>
    intro listed dn me rest S0 Sc cur C a w hsz hun hcl I0 h0 R
    obtain ⟨dn, me, rest, Sc, I, h, hhd⟩ := settle hS rest dn me Sc I0 h0
    have hall : ∀ i, i < ops.size → XOf listed i := fun i hi => by
      have : i ∉ (List.range ops.size).filter fun i => !listed.getD i true := by
        rw [List.length_eq_zero_iff.1 hun]; simp
      rw [List.mem_filter, List.mem_range] at this
      have : listed.getD i true = true := by simpa [hi] using this
      rw [getD_flip (by omega)] at this; exact this
    simp only [wpAny]
    refine ⟨List.eq_nil_iff_forall_not_mem.2 fun i hi => ?_, ?_⟩
    · obtain ⟨h1, o, h2, _⟩ := mem_ready.1 hi
      have hlt := (Array.getElem?_eq_some_iff.1 h2).1
      have := hall i hlt
      unfold XOf at this
      rw [getD_flip (by omega), this] at h1; cases h1
    · cases rest with
      | nil =>
        have e := I.same (fun j o m hj _ => hall j (by have := getL_lt (tab_spec hj).1; simpa using this)) (fun j o m hj _ => hall j (by have := getL_lt (tab_spec hj).1; simpa using this))
        subst e
        exact ⟨.normal, cur, C, h, rfl, R⟩
      | cons q r =>
        obtain ⟨i, o, m⟩ := q
        have hit := I.rst (i, o, m) (by simp)
        have hX := hall i (by have := getL_lt (tab_spec hit).1; simpa using this)
        simp only [edraw] at h
        rw [if_pos (by rw [I.XD i o m hit hX]; rfl)] at h
        exact h.elim
  | succ fuel ih =>
    intro listed dn me rest S0 Sc cur C a w hsz hun hcl I0 h0 R
    obtain ⟨dn, me, rest, Sc, I, h, hhd⟩ := settle hS rest dn me Sc I0 h0
    simp only [wpAny]
    refine ⟨fun hnr => ?_, fun i hi => ?_⟩
    · exfalso
      have hall : ∀ i, i < ops.size → XOf listed i := by
        intro i
        induction i using Nat.strongRecOn with
        | _ i ihi =>
          intro hlt
          have ho : ops[i]? = some ops[i] := by simp [hlt]
          obtain ⟨m, hit⟩ := tab_mem (ops := ops.toList) (i := i) (o := ops[i]) (by rw [getL_eq]; simpa using ho)
          apply Classical.byContradiction
          intro hX
          have : i ∈ Region.ready .any ops listed := by
            rw [mem_ready]
            refine ⟨by rw [getD_flip (by omega)]; simpa [XOf] using hX, _, ho, fun e he hb => ?_⟩
            have hb' := hS.back i _ m hit e he hb
            exact ihi e.on hb' (by omega)
          rw [hnr] at this; cases this
      have : unl ops.size listed = 0 := by
        unfold unl
        rw [List.length_eq_zero_iff, List.filter_eq_nil_iff]
        intro i hi
        have hlt := List.mem_range.1 hi
        have := hall i hlt
        unfold XOf at this
        rw [getD_flip (by omega), this]; simp
      omega
    · obtain ⟨h1, o, ho, hp⟩ := mem_ready.1 hi
      have hlt : i < ops.size := (Array.getElem?_eq_some_iff.1 ho).1
      have hgo : getL ops.toList i = some o := by rw [getL_eq]; simpa using ho
      have hX : ¬ XOf listed i := by unfold XOf; rw [getD_flip (by omega)] at h1; rw [h1]; simp
      have hXset : XOf (listed.setIfInBounds i true) = fun j => XOf listed j ∨ j = i := XOf_set (by omega)
      have hun' : unl ops.size (listed.setIfInBounds i true) = fuel := by
        have := unl_set hsz hlt hX; omega
      have hp' : ∀ e ∈ o.after, Region.binds .any e = true → XOf listed e.on := hp
      have hcl' : Closed ops.toList (XOf (listed.setIfInBounds i true)) := by rw [hXset]; exact hcl.add hgo hp'
      have go : ∀ {dn me rest S0 Sc cur C a w}, Inv T CALL DFR esc ap ops.toList (fun j => XOf listed j ∨ j = i) dn me rest S0 Sc cur → edraw T (AP CALL DFR) esc ap ops.toList al dn me rest Sc k → Rel B C cur a w [] →
          wpAny T .any ops (QC B k) fuel (listed.setIfInBounds i true) a w := fun I h R => ih _ _ _ _ _ _ _ _ _ _ (by simpa using hsz) hun' hcl' (by rw [hXset]; exact I) h R
      obtain ⟨m, hit⟩ := tab_mem hgo
      by_cases hd : dn.testBit i = true
      · rcases I.ev i o m hit hd hX with hn | ha
        · obtain ⟨v0, hf, hP⟩ := I.pend i o m hit hd hX hn
          have hlk := I.looks_eq hS hit hX hcl hp'
          have hw := hP cur (fun t ht => (hlk t ht).1) (fun t ht => (hlk t ht).2) (fun _ t x dv hx hld => ?_)
          · refine wpOp_of hN hC ho R hw (fun d st' C' a' w' hk R' => ?_) (fun p st' C' v a' w' hk => hk.elim) (fun C' a' w' hk R' => ?_)
            · obtain ⟨rfl, rfl⟩ := hk
              exact go (I.late hS hit hd hn hf) h R'
            · subst hk
              exact go (I.late hS hit hd hn hf) h R'
          · -- the load's cell
            cases hc : opdD cur.r x with
            | lp s off =>
              have hbx : boxed cur s = true := by
                have hr := R.opd x
                rw [hc] at hr
                simp only [RepD] at hr
                exact (R.al s).1 hr.1
              have hs : getL cur.b s = getL Sc.b s := I.bAll s fun j o' m' hj ha hXj hds => by
                rw [I.bNone j o' m' s hj ha hXj hds] at hbx; cases hbx
              rw [hc] at hld
              rw [← hld]; unfold loadD
              simp only [hs]
            | ref id off => rw [hc] at hld; rw [← hld]; unfold loadD; simp only [I.h]
            | _ => rw [hc] at hld; simp [loadD] at hld
        · obtain ⟨d, t, z, e1, e2, e3, e4, e5, e6⟩ := I.bLive i o m hit ha hd hX
          obtain ⟨_, d', _, e7, e8, _, e9⟩ := isA_spec ha
          rw [e1] at e7; simp only [Option.some.injEq] at e7; subst e7
          have hw : wantedD (AP CALL DFR) ops.toList cur o (eop T (AP CALL DFR) esc ap cur o (fun v s => v = .lp d 0 ∧ s = newBox cur d (z.cells.map .p)) (fun _ _ => False)) False := by
            unfold wantedD
            rw [e9]
            simp only []
            unfold eop
            rw [e2]
            simp only [e1, e3, e8, Bool.false_eq_true, if_false]
            rw [if_pos (by rw [I.lenb]; exact e4)]
            simp
          refine wpOp_of hN hC ho R hw (fun v st' C' a' w' hk R' => ?_) (fun p st' C' v a' w' hk => hk.elim) (fun C' a' w' hk => hk.elim)
          obtain ⟨rfl, rfl⟩ := hk
          rw [e1] at R'
          exact go (I.lateA hS hit hd ha hX e1 e4 e5 e6) h R'
      · rw [Bool.not_eq_true] at hd
        rcases I.cov i o m hit with hh | hmem
        · rw [hd] at hh; cases hh
        cases rest with
        | nil => simp at hmem
        | cons q r =>
        obtain ⟨i', o', m'⟩ := q
        obtain ⟨hn, hA⟩ := hhd i' o' m' r rfl
        have hit' := I.rst (i', o', m') (by simp)
        simp only [edraw] at h
        split at h
        · exact fail_elim h
        rename_i hc
        simp only [Bool.or_eq_true, bne_iff_ne, ne_eq, not_or, Bool.not_eq_true, Decidable.not_not] at hc
        obtain ⟨hd', hm⟩ := hc
        simp only [hn, hA, Bool.false_eq_true, if_false] at h
        split at h
        · exact fail_elim h
        rename_i hev
        have hev : ∀ q ∈ r, q.2.2.testBit i' = true := by
          rw [Bool.not_eq_true, List.any_eq_false] at hev
          intro q hq
          have := hev q hq
          simpa using this
        -- it is the head
        have hii : i = i' := by
          rcases List.mem_cons.1 hmem with e | e
          · simp only [Prod.mk.injEq] at e; exact e.1
          · have h1 : m.testBit i' = true := hev _ e
            have h2 := (tab_spec hit).2.2 _ hcl hp' i' h1
            have h3 := I.XD i' o' m' hit' h2
            rw [hd'] at h3; cases h3
        subst hii
        obtain ⟨rfl, rfl⟩ := tab_uniq hit hit'
        have hallA := I.allA hA hev
        have evX : ∀ j o' m', (j, o', m') ∈ tabOf ops.toList → dn.testBit j = true → isA esc o' = false → neutral T ap o' = false → XOf listed j := fun j o' m' h1 h2 h3 h4 => by
          apply Classical.byContradiction
          intro hx
          rcases I.ev j o' m' h1 h2 hx with h | h
          · rw [h4] at h; cases h
          · rw [h3] at h; cases h
        have upX : ∀ j, m.testBit j = true → XOf listed j := fun j hj => (tab_spec hit).2.2 _ hcl hp' j hj
        split at h
        · -- all that came before is done
          rename_i hfull
          simp only [beq_iff_eq] at hfull
          have hall : ∀ j o' m', (j, o', m') ∈ tabOf ops.toList → dn.testBit j = true → XOf listed j := fun j o' m' _ h2 => upX j (and_sub hfull h2)
          have hAX : ∀ j o' m', (j, o', m') ∈ tabOf ops.toList → isA esc o' = true → XOf listed j := fun j o' m' h1 h2 => hall j o' m' h1 (hallA j o' m' h1 h2)
          have e := I.same hAX hall
          subst e
          refine wpOp_of hN hC ho R h (fun d st' C' a' w' hk R' => ?_) (fun p st' C' v a' w' hk R' => ?_) (fun C' a' w' hk R' => ?_)
          · exact go (I.full hm hAX hall _) hk R'
          · exact ⟨.pan p, st', C', hk, v, rfl, R'⟩
          · exact go (I.full hm hAX hall _) hk R'
        · -- others wait
          rename_i hnf
          have hlk := I.looks_ev hS hit hd hcl hp'
          rw [← wantedD_congr hlk] at h
          have hag := agree_of (o := o) hlk
          have skip : ∀ {C' a' w'}, edraw T (AP CALL DFR) esc ap ops.toList al (dn ||| 2 ^ i) me r (putR Sc o.dst (.tup [])) k → Rel B C' (putR cur o.dst (.tup [])) a' w' [] →
              wpAny T .any ops (QC B k) fuel (listed.setIfInBounds i true) a' w' := fun hk R' =>
            go (I.part hS (.tup []) hd hm hA rfl rfl rfl rfl I.lenb I.h (.inl ⟨rfl, ⟨[], by simp⟩, rfl⟩)) hk R'
          split at h
          · -- a call
            have hw : ∃ (r0 : Res) (e0 : List Blk), wantedD (AP CALL DFR) ops.toList cur o ((match r0 with | .ret d => edraw T (AP CALL DFR) esc ap ops.toList al (dn ||| 2 ^ i) me r (putR { Sc with h := Sc.h ++ e0 } o.dst d) k | .pan p => k (.pan p) (wipe ops.toList { Sc with h := Sc.h ++ e0 })) ∧
                eop T (AP CALL DFR) esc ap cur o (fun d s => r0 = .ret d ∧ s = { cur with h := Sc.h ++ e0 }) (fun p s => r0 = .pan p ∧ s = { cur with h := Sc.h ++ e0 })) (edraw T (AP CALL DFR) esc ap ops.toList al (dn ||| 2 ^ i) me r (putR Sc o.dst (.tup [])) k) := by
              rcases wantedD_imp h with ⟨g, kk⟩ | ⟨g, kk⟩
              · obtain ⟨r0, e0, g1, g2⟩ := ecallN_eop (esc := esc) (ap := ap) hMo hag I.h g
                exact ⟨r0, e0, kk _ _ ⟨g1, g2⟩⟩
              · exact ⟨.pan (.sc undef), [], kk _ _ g⟩
            obtain ⟨r0, e0, hw⟩ := hw
            rcases wantedD_imp hw with ⟨⟨g1, g2⟩, kk⟩ | ⟨g, kk⟩
            · refine wpOp_of (N := False) hN hC ho R (kk _ _ g2) (fun d st' C' a' w' hk R' => ?_) (fun p st' C' v a' w' hk R' => ?_) (fun C' a' w' hk => hk.elim)
              · obtain ⟨rfl, rfl⟩ := hk
                exact go (I.part (st' := { Sc with h := Sc.h ++ e0 }) (cur1 := { cur with h := Sc.h ++ e0 }) hS d hd hm hA rfl rfl rfl rfl I.lenb rfl (.inl ⟨rfl, ⟨e0, rfl⟩, rfl⟩)) g1 R'
              · obtain ⟨rfl, rfl⟩ := hk
                obtain ⟨C'', R''⟩ := R'.wipe ops.toList (by intro j q hq; cases j with | zero => (simp only [getL, Option.some.injEq] at hq; subst hq; rfl) | succ j => simp [getL] at hq)
                have ew : wipe ops.toList { cur with h := Sc.h ++ e0 } = wipe ops.toList { Sc with h := Sc.h ++ e0 } := by
                  have e1 := I.wipe
                  simp only [AE.wipe, St.mk.injEq] at e1 ⊢
                  exact ⟨e1.1, e1.2.1, trivial, e1.2.2.2⟩
                rw [ew] at R''
                exact ⟨.pan p, _, C'', g1, v, rfl, R''⟩
            · exact wpOp_of (esc := esc) (ap := ap) (K := fun _ _ => False) (Kp := fun _ _ => False) hN hC ho R (kk _ _ g) (fun d st' C' a' w' hk => hk.elim) (fun p st' C' v a' w' hk => hk.elim) (fun C' a' w' hk R' => skip hk R')
          · -- a store
            split at h
            case isFalse =>
              rcases wantedD_imp h with ⟨g, kk⟩ | ⟨g, kk⟩
              · exact fail_elim g
              · exact wpOp_of (esc := esc) (ap := ap) (K := fun _ _ => False) (Kp := fun _ _ => False) hN hC ho R (kk _ _ g) (fun d st' C' a' w' hk => hk.elim) (fun p st' C' v a' w' hk => hk.elim) (fun C' a' w' hk R' => skip hk R')
            rename_i hma
            simp only [Bool.and_eq_true, beq_iff_eq] at hma
            have hAX : ∀ j o' m', (j, o', m') ∈ tabOf ops.toList → isA esc o' = true → XOf listed j := fun j o' m' h1 h2 => upX j (and_sub hma.2 (hal j o' m' h1 h2))
            have hb : cur.b = Sc.b := getL_ext fun s => I.bAll s fun j o' m' h1 h2 h3 => absurd (hAX j o' m' h1 h2) h3
            rcases wantedD_imp h with ⟨g, kk⟩ | ⟨g, kk⟩
            · obtain ⟨st', g1, f1, f2, f3, g2⟩ := estoreN_eop (esc := esc) (ap := ap) hag hb I.h g
              refine wpOp_of (esc := esc) (ap := ap) (N := False) hN hC ho R (kk _ _ g2) (fun d st1 C' a' w' hk R' => ?_) (fun p st' C' v a' w' hk => hk.elim) (fun C' a' w' hk => hk.elim)
              obtain ⟨rfl, rfl⟩ := hk
              refine go (I.part (st' := st') (cur1 := { cur with b := st'.b, h := st'.h }) hS .dead hd hm hA f1 rfl f2 rfl rfl rfl (.inr ⟨hAX, rfl, fun j o' m' h1 h2 h3 => ?_⟩)) g1 R'
              cases e : me.testBit j with
              | false => rfl
              | true => exact absurd (upX j (and_sub hma.1 e)) h3
            · exact wpOp_of (esc := esc) (ap := ap) (K := fun _ _ => False) (Kp := fun _ _ => False) hN hC ho R (kk _ _ g) (fun d st' C' a' w' hk => hk.elim) (fun p st' C' v a' w' hk => hk.elim) (fun C' a' w' hk R' => skip hk R')

theorem mem_ordOf {tab : List Ent} {q : Ent} (h : q ∈ ordOf T esc ap tab) : q ∈ tab := by
  unfold ordOf at h
  rcases List.mem_append.1 h with h | h
  · exact (List.mem_filter.1 h).1
  · obtain ⟨r, _, h⟩ := List.mem_flatMap.1 h
    exact (List.mem_filter.1 h).1

theorem drops_ok : ∀ (l : List Ent) (C : Ctx) (st : St), Rel B C st a w [] → ∃ C', Rel B C' (l.foldl (fun st q => match q.2.1.dst with | some d => dropB st d | none => st) st) a w [] ∧
    (∀ s, boxed (l.foldl (fun st q => match q.2.1.dst with | some d => dropB st d | none => st) st) s = true → boxed st s = true ∧ ∀ q ∈ l, q.2.1.dst ≠ some s)
  | [], C, st, R => ⟨C, R, fun s h => ⟨h, by simp⟩⟩
  | q :: l, C, st, R => by
    rw [List.foldl_cons]
    cases hq : q.2.1.dst with
    | none =>
      obtain ⟨C', R', h⟩ := drops_ok l C st R
      refine ⟨C', R', fun s hs => ⟨(h s hs).1, fun q' hq' => ?_⟩⟩
      rcases List.mem_cons.1 hq' with rfl | hq'
      · rw [hq]; simp
      · exact (h s hs).2 q' hq'
    | some d =>
      obtain ⟨C1, R1⟩ := R.dropB d
      obtain ⟨C', R', h⟩ := drops_ok l C1 _ R1
      refine ⟨C', R', fun s hs => ⟨(boxed_dropB.1 (h s hs).1).1, fun q' hq' => ?_⟩⟩
      rcases List.mem_cons.1 hq' with rfl | hq'
      · rw [hq]; intro e; simp only [Option.some.injEq] at e; exact (boxed_dropB.1 (h s hs).1).2 e.symm
      · exact (h s hs).2 q' hq'

theorem Rel.drawn (R : Rel B C st a w []) : Rel B C st a { w with drawn := w.drawn + 1 } [] :=
  R.world (w' := { w with drawn := w.drawn + 1 }) (Φ' := C.Φ) (fun _ _ => rfl) (Nat.le_refl _) rfl rfl rfl (Le.refl _) (fun _ _ _ => rfl) R.sub

theorem draw_sound (hN : NoNum T) (hm : T.follows .mixedOrders = true) (hC : CallSound T CALL) (hMo : CallMono CALL) : DrawSound T CALL DFR := by
  intro B C st0 a w esc id ops k h R
  unfold eregion at h
  split at h
  case isFalse => exact fail_elim h
  rename_i hs
  simp only [Bool.and_eq_true] at hs
  obtain ⟨h1, h2⟩ := hs
  have hS := static_ok h1
  refine wp_region_any hm ?_
  obtain ⟨C', R', hb⟩ := drops_ok ((tabOf ops.toList).filter fun q => isA esc q.2.1) C st0 R
  generalize hst : (((tabOf ops.toList).filter fun q => isA esc q.2.1).foldl (fun st q => match q.2.1.dst with | some d => dropB st d | none => st) st0) = st at h R' hb
  have hbx : ∀ i o m d, (i, o, m) ∈ tabOf ops.toList → isA esc o = true → o.dst = some d → boxed st d = false := by
    intro i o m d hit ha hd
    cases e : boxed st d with
    | false => rfl
    | true => exact absurd hd ((hb d e).2 (i, o, m) (List.mem_filter.2 ⟨hit, ha⟩))
  have nX : ∀ i, ¬ XOf (Array.replicate ops.size false) i := fun i h => by
    unfold XOf at h
    by_cases hi : i < ops.size <;> simp [hi] at h
  refine draw_main hN hC hMo hS (al := alOf esc (tabOf ops.toList)) ?_ ops.size _ 0 0 _ st.r st st C' a _ (by simp) ?_ (fun j o hX => absurd hX (nX j)) ?_ h R'.drawn
  · intro j o m hj ha
    unfold alOf
    exact (alOf_bit (tab := []) _ _ _).2 (.inr ⟨(j, o, m), hj, ha, rfl⟩)
  · unfold unl
    rw [List.filter_eq_self.2, List.length_range]
    intro i hi
    have := List.mem_range.1 hi
    simp [this]
  · have no : ∀ j, (0 : Nat).testBit j = false := fun j => by simp
    refine { len := rfl, lenb := rfl, h := rfl, df := rfl, XD := fun i o m _ hX => absurd hX (nX i), ev := fun i o m _ hd => (by rw [no] at hd; cases hd), top := fun i o m _ hd => (by rw [no] at hd; cases hd),
             rst := fun q hq => mem_ordOf hq, cov := fun i o m hit => .inr ?_, regX := fun t i o m _ hX => absurd hX (nX i), regN := fun _ _ => rfl, regD := fun _ _ => rfl, bAll := fun _ _ => rfl,
             bNone := fun i o m d hit ha _ hd => hbx i o m d hit ha hd, bNone2 := fun i o m d hit ha _ hd => hbx i o m d hit ha hd, bLive := fun i o m _ _ hd => (by rw [no] at hd; cases hd), pend := fun i o m _ hd => (by rw [no] at hd; cases hd) }
    unfold covOK at h2
    rw [List.all_eq_true] at h2
    have := h2 (i, o, m) hit
    rw [List.any_eq_true] at this
    obtain ⟨⟨j, o', m'⟩, g1, g2⟩ := this
    simp only [beq_iff_eq] at g2
    subst g2
    obtain ⟨rfl, rfl⟩ := tab_uniq hit (mem_ordOf g1)
    exact g1
end
end Go.AE
end

