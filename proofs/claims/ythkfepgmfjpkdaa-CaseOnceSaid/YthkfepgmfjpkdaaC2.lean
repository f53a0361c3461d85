/- Part of a proof of a statement of the seat; see its last text. No condition. -/
import Derived.Test.YthkfepgmfjpkdaaAe3
import Derived.Test.YthkfepgmfjpkdaaC1
set_option linter.all false

namespace Go.AE
open Go Go.Proofs
set_option linter.unusedSimpArgs false
set_option linter.unusedVariables false
set_option maxRecDepth 100000

theorem hmixed : Try.prog.follows .mixedOrders = true := by kernel_rfl
theorem nonum : NoNum Try.prog := by
  intro f fn h
  have ha : Try.prog.funcs.all (fun fn => !(fn.name == "runtime.NumGoroutine")) = true := by kernel_rfl
  rw [Array.all_eq_true] at ha
  obtain ⟨hlt, rfl⟩ := Array.getElem?_eq_some_iff.1 h
  have := ha f hlt
  simpa using this

def cloneF : List D → List Blk → RO
  | [.p (.sc (.slice none 0 0))], h => some (.ret (.p (.sc (.slice none 0 0))), h)
  | [.p (.sl w rows)], h => match rows with
    | [] => none
    | _ :: _ => if rows.length ≤ 1048576 then some (.ret (.ms w h.length 0 rows.length), h ++ [.cells (rows.flatten.map .p)]) else none
  | _, _ => none

theorem clone32 (w : Nat) (rows : List (List P)) (h : List Blk) (hw : w = 5) (hne : rows ≠ []) (hsm : rows.length ≤ 2 ^ 20) :
    CallOK Try.prog 32 [.p (.sl w rows)] h fun r h' => r = .ret (.ms w h.length 0 rows.length) ∧ h' = h ++ [.cells (rows.flatten.map .p)] := by
  subst hw
  have hi : ∃ i, Try.prog.info? 30 = some i ∧ i.size = 5 ∧ i.bytes ≤ 2 ^ 20 := ⟨_, rfl, rfl, by decide⟩
  obtain ⟨i, hi, hs, hib⟩ := hi
  have hz : ∃ z, zeroT Try.prog 30 = some z ∧ z.cells.length = 5 := ⟨_, rfl, rfl⟩
  obtain ⟨z, hz, hzl⟩ := hz
  rw [← hs] at hzl ⊢
  refine clone_ok (fn := Try.f32) (e := 30) (t := 43) nonum hmixed rfl rfl hi hz hzl (by rw [hs]; rfl) rfl hib ⟨rfl, rfl, rfl⟩ ⟨rfl, rfl, rfl⟩ ⟨rfl, rfl, rfl⟩ ⟨rfl, rfl, rfl⟩ rfl rfl hne hsm ?_
  refine (?_ : ecode _ _ _ _ (startSt Try.f32 [.p (.sl i.size rows)] h) _)
  rw [hs]
  conv => whnf
  refine ⟨rfl, ?_⟩
  conv => whnf
  refine pbr_false ?_
  conv => whnf
  exact ⟨rfl, rfl, rfl, rfl, rfl⟩

theorem clone33 (w : Nat) (rows : List (List P)) (h : List Blk) (hw : w = 1) (hne : rows ≠ []) (hsm : rows.length ≤ 2 ^ 20) :
    CallOK Try.prog 33 [.p (.sl w rows)] h fun r h' => r = .ret (.ms w h.length 0 rows.length) ∧ h' = h ++ [.cells (rows.flatten.map .p)] := by
  subst hw
  have hi : ∃ i, Try.prog.info? 3 = some i ∧ i.size = 1 ∧ i.bytes ≤ 2 ^ 20 := ⟨_, rfl, rfl, by decide⟩
  obtain ⟨i, hi, hs, hib⟩ := hi
  have hz : ∃ z, zeroT Try.prog 3 = some z ∧ z.cells.length = 1 := ⟨_, rfl, rfl⟩
  obtain ⟨z, hz, hzl⟩ := hz
  rw [← hs] at hzl ⊢
  refine clone_ok (fn := Try.f33) (e := 3) (t := 44) nonum hmixed rfl rfl hi hz hzl (by rw [hs]; rfl) rfl hib ⟨rfl, rfl, rfl⟩ ⟨rfl, rfl, rfl⟩ ⟨rfl, rfl, rfl⟩ ⟨rfl, rfl, rfl⟩ rfl rfl hne hsm ?_
  refine (?_ : ecode _ _ _ _ (startSt Try.f33 [.p (.sl i.size rows)] h) _)
  rw [hs]
  conv => whnf
  refine ⟨rfl, ?_⟩
  conv => whnf
  refine pbr_false ?_
  conv => whnf
  exact ⟨rfl, rfl, rfl, rfl, rfl⟩

theorem caught70 : CaughtOK Try.prog 70 124 := ⟨⟨_, caught_fn, caught_body⟩, caught_ret, caught_pan⟩
def cau : FuncId → Option TypeId := fun f => if f == 70 then some 124 else none
theorem cau_ok : ∀ f t, cau f = some t → CaughtOK Try.prog f t := by
  intro f t h
  unfold cau at h
  split at h
  · rename_i e
    simp only [beq_iff_eq] at e; subst e
    simp only [Option.some.injEq] at h; subst h
    exact caught70
  · cases h
theorem fnok : FnOK Try.prog cau := fnOK nonum hmixed cau_ok

theorem cloneNil (f : FuncId) (fn : Func) (hf : Try.prog.funcs[f]? = some fn) (hA : ∀ h K, K (.ret (.p (.sc (.slice none 0 0)))) h → efn Try.prog (AP (CallOK Try.prog) (dfrP cau)) [] fn [.p (.sc (.slice none 0 0))] h K) (h : List Blk) :
    CallOK Try.prog f [.p (.sc (.slice none 0 0))] h fun r h' => r = .ret (.p (.sc (.slice none 0 0))) ∧ h' = h :=
  fnok [] f fn _ _ _ hf (hA _ _ ⟨rfl, rfl⟩)

def okW (w0 : Nat) : List D → Bool
  | [.p (.sl w _)] => w == w0
  | _ => true
def cloneF' (w0 : Nat) (ds : List D) (h : List Blk) : RO := match okW w0 ds with
  | true => cloneF ds h
  | false => none
def mode : FuncId → FuncId → RMode := fun g f => if g == 12 && f == 32 then .spec (cloneF' 5) else if g == 12 && f == 33 then .spec (cloneF' 1) else if g == 7 && f == 12 then .imp else if g == 3 && f == 4 then .mut else if g == 3 && (f == 6 || f == 7) then .frz else .norm

theorem cloneF_inv {ds : List D} {h h' : List Blk} {r : Res} (e : cloneF ds h = some (r, h')) :
    (ds = [.p (.sc (.slice none 0 0))] ∧ r = .ret (.p (.sc (.slice none 0 0))) ∧ h' = h) ∨
    ∃ w rows, ds = [.p (.sl w rows)] ∧ rows ≠ [] ∧ rows.length ≤ 1048576 ∧ r = .ret (.ms w h.length 0 rows.length) ∧ h' = h ++ [.cells (rows.flatten.map .p)] := by
  unfold cloneF at e
  split at e
  · simp only [Option.some.injEq, Prod.mk.injEq] at e
    obtain ⟨rfl, rfl⟩ := e
    exact .inl ⟨rfl, rfl, rfl⟩
  · split at e
    · cases e
    · split at e
      · rename_i hl
        simp only [Option.some.injEq, Prod.mk.injEq] at e
        obtain ⟨rfl, rfl⟩ := e
        exact .inr ⟨_, _, rfl, by simp, hl, rfl, rfl⟩
      · cases e
  · cases e
theorem cloneF_spec {f : FuncId} {w0 : Nat} (h1 : ∀ rows h, rows ≠ [] → rows.length ≤ 2 ^ 20 → CallOK Try.prog f [.p (.sl w0 rows)] h fun r h' => r = .ret (.ms w0 h.length 0 rows.length) ∧ h' = h ++ [.cells (rows.flatten.map .p)])
    (h0 : ∀ h, CallOK Try.prog f [.p (.sc (.slice none 0 0))] h fun r h' => r = .ret (.p (.sc (.slice none 0 0))) ∧ h' = h) :
    ∀ ds h r h', cloneF' w0 ds h = some (r, h') → CallOK Try.prog f ds h fun r' h'' => r' = r ∧ h'' = h' := by
  intro ds h r h' e
  have e' : cloneF ds h = some (r, h') ∧ ∀ w rows, ds = [.p (.sl w rows)] → w = w0 := by
    unfold cloneF' at e
    cases hw : okW w0 ds with
    | false => rw [hw] at e; cases e
    | true => rw [hw] at e; exact ⟨e, fun w rows h => by subst h; simpa [okW] using hw⟩
  obtain ⟨e, hw⟩ := e'
  rcases cloneF_inv e with ⟨rfl, rfl, rfl⟩ | ⟨w, rows, rfl, a1, a2, rfl, rfl⟩
  · exact h0 h'
  · have := hw w rows rfl; subst this
    exact h1 rows h a1 a2

theorem nil32 (h : List Blk) : CallOK Try.prog 32 [.p (.sc (.slice none 0 0))] h fun r h' => r = .ret (.p (.sc (.slice none 0 0))) ∧ h' = h := by
  refine cloneNil 32 Try.f32 rfl ?_ h
  intro h K hK
  conv => whnf
  refine pbr_true ?_
  conv => whnf
  exact hK
theorem nil33 (h : List Blk) : CallOK Try.prog 33 [.p (.sc (.slice none 0 0))] h fun r h' => r = .ret (.p (.sc (.slice none 0 0))) ∧ h' = h := by
  refine cloneNil 33 Try.f33 rfl ?_ h
  intro h K hK
  conv => whnf
  refine pbr_true ?_
  conv => whnf
  exact hK

theorem specs : SpecOK Try.prog mode where
  spec g f F hF ds h r h' e := by
    unfold mode at hF
    split at hF
    · rename_i hc
      simp only [Bool.and_eq_true, beq_iff_eq] at hc
      obtain ⟨_, rfl⟩ := hc
      simp only [RMode.spec.injEq] at hF; subst hF
      exact cloneF_spec (fun rows h h1 h2 => clone32 _ rows h rfl h1 h2) nil32 ds h r h' e
    split at hF
    · rename_i hc
      simp only [Bool.and_eq_true, beq_iff_eq] at hc
      obtain ⟨_, rfl⟩ := hc
      simp only [RMode.spec.injEq] at hF; subst hF
      exact cloneF_spec (fun rows h h1 h2 => clone33 _ rows h rfl h1 h2) nil33 ds h r h' e
    repeat' split at hF
    all_goals cases hF
  keep g f F hF ds h r e := by
    unfold mode at hF
    repeat' split at hF
    all_goals cases hF

theorem runok (d : Nat) (g : FuncId) : RunOK Try.prog (run Try.prog cau mode d g) := run_ok fnok specs d g
end Go.AE
