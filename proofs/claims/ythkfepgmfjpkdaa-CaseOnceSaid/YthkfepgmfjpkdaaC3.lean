/- Part of a proof of a statement of the seat; see its last text. No condition. -/
import Derived.Test.YthkfepgmfjpkdaaC2
import Derived.Test.YthkfepgmfjpkdaaAe3
set_option linter.all false

namespace Go.AE
open Go Go.Proofs
set_option maxRecDepth 100000
set_option maxHeartbeats 400000
theorem pureRun_bind {α β : Type} (T : Program) : ∀ (m : Sem α) (f : α → Sem β), pureRun T (m.bind f) = (pureRun T m).bind fun a => pureRun T (f a) := by
  intro m f
  induction m with
  | pure a => rfl
  | program k ih => simp only [Sem.bind, pureRun]; exact ih _
  | mark e k ih => simp only [Sem.bind, pureRun]; exact ih
  | _ => simp [Sem.bind, pureRun]
theorem eqi (d : Nat) (x : Int) : pureRun Try.prog (Op.equalIn (d + 1) 2 (.int .i64 x) (.int .i64 x)) = some true := by
  unfold Op.equalIn
  show pureRun _ (Sem.bind (underlying 2) _) = _
  rw [pureRun_bind, show pureRun Try.prog (underlying 2) = some (.int .i64) by kernel_rfl]
  simp
  show pureRun _ (Sem.pure _) = _
  simp [pureRun]
abbrev V5 (x : Int) : Value := .agg #[.int .i64 1, .int .i64 x, .bool false, .string ⟨#[]⟩, .float .f64 0]

theorem pureRun_forIn {β : Type} (T : Program) (f : Field) (fs : List Field) (b : β) (body : Field → β → Sem (ForInStep β)) :
    pureRun T (forIn (f :: fs) b body) = (pureRun T (body f b)).bind fun | .done b => some b | .yield b => pureRun T (forIn fs b body) := by
  rw [List.forIn_cons]
  show pureRun T (Sem.bind _ _) = _
  rw [pureRun_bind]
  congr 1
  funext s
  cases s <;> rfl
def eqBody (x y : Array Value) : Field → Option Bool × Unit → Sem (ForInStep (Option Bool × Unit)) := fun f __s =>
  if f.name ≠ "_" then do
    let a ← part f.type x f.offset
    let b ← part f.type y f.offset
    let r ← Op.equalIn 9999 f.type a b
    if (!r) = true then pure (ForInStep.done (some false, ()))
      else pure (ForInStep.yield (none, ()))
  else pure (ForInStep.yield (none, ()))
theorem eqBody_ok {xs ys : Array Value} {f : Field} {a b : Value} (hn : f.name ≠ "_") (ha : pureRun Try.prog (part f.type xs f.offset) = some a) (hb : pureRun Try.prog (part f.type ys f.offset) = some b)
    (hr : pureRun Try.prog (Op.equalIn 9999 f.type a b) = some true) (s : Option Bool × Unit) : pureRun Try.prog (eqBody xs ys f s) = some (.yield (none, ())) := by
  unfold eqBody
  rw [if_pos hn]
  show pureRun _ (Sem.bind _ _) = _
  rw [pureRun_bind, ha]
  simp only [Option.bind_some]
  show pureRun _ (Sem.bind _ _) = _
  rw [pureRun_bind, hb]
  simp only [Option.bind_some]
  show pureRun _ (Sem.bind _ _) = _
  rw [pureRun_bind, hr]
  rfl
theorem eqx (x : Int) : pureRun Try.prog (Op.equal 30 (V5 x) (V5 x)) = some true := by
  unfold Op.equal
  show pureRun Try.prog (Op.equalIn (9999 + 1) 30 (V5 x) (V5 x)) = some true
  unfold Op.equalIn
  show pureRun _ (Sem.bind (underlying 30) _) = _
  rw [pureRun_bind]
  obtain ⟨f0, f1, f2, f3, f4, htd, h0, h1, h2, h3, h4⟩ : ∃ f0 f1 f2 f3 f4, pureRun Try.prog (underlying 30) = some (.struct #[f0, f1, f2, f3, f4]) ∧
    (f0.name ≠ "_" ∧ f0.type = 3 ∧ f0.offset = 0) ∧ (f1.name ≠ "_" ∧ f1.type = 2 ∧ f1.offset = 1) ∧ (f2.name ≠ "_" ∧ f2.type = 4 ∧ f2.offset = 2) ∧ (f3.name ≠ "_" ∧ f3.type = 9 ∧ f3.offset = 3) ∧ (f4.name ≠ "_" ∧ f4.type = 28 ∧ f4.offset = 4) :=
    ⟨_, _, _, _, _, rfl, ⟨by decide, rfl, rfl⟩, ⟨by decide, rfl, rfl⟩, ⟨by decide, rfl, rfl⟩, ⟨by decide, rfl, rfl⟩, ⟨by decide, rfl, rfl⟩⟩
  rw [htd]
  simp only [Option.bind_some]
  show pureRun _ (Sem.bind program _) = _
  rw [pureRun_bind, show pureRun Try.prog program = some Try.prog from rfl]
  simp only [Option.bind_some]
  rw [if_neg (by rw [show Try.prog.stoodInHeld 30 = false by kernel_rfl]; simp)]
  show pureRun _ (Sem.bind _ _) = _
  rw [pureRun_bind, ← Array.forIn_toList]
  show (pureRun Try.prog (forIn [f0, f1, f2, f3, f4] (none, ()) (eqBody _ _))).bind _ = _
  rw [pureRun_forIn, eqBody_ok h0.1 (a := .int .i64 1) (b := .int .i64 1) (by rw [h0.2.1, h0.2.2]; kernel_rfl) (by rw [h0.2.1, h0.2.2]; kernel_rfl) (by rw [h0.2.1]; kernel_rfl)]
  simp only [Option.bind_some]
  rw [pureRun_forIn, eqBody_ok h1.1 (a := .int .i64 x) (b := .int .i64 x) (by rw [h1.2.1, h1.2.2]; kernel_rfl) (by rw [h1.2.1, h1.2.2]; kernel_rfl) (by rw [h1.2.1]; exact eqi 9998 x)]
  simp only [Option.bind_some]
  rw [pureRun_forIn, eqBody_ok h2.1 (a := .bool false) (b := .bool false) (by rw [h2.2.1, h2.2.2]; kernel_rfl) (by rw [h2.2.1, h2.2.2]; kernel_rfl) (by rw [h2.2.1]; kernel_rfl)]
  simp only [Option.bind_some]
  rw [pureRun_forIn, eqBody_ok h3.1 (a := .string ⟨#[]⟩) (b := .string ⟨#[]⟩) (by rw [h3.2.1, h3.2.2]; kernel_rfl) (by rw [h3.2.1, h3.2.2]; kernel_rfl) (by rw [h3.2.1]; kernel_rfl)]
  simp only [Option.bind_some]
  rw [pureRun_forIn, eqBody_ok h4.1 (a := .float .f64 0) (b := .float .f64 0) (by rw [h4.2.1, h4.2.2]; kernel_rfl) (by rw [h4.2.1, h4.2.2]; kernel_rfl) (by rw [h4.2.1]; kernel_rfl)]
  simp only [Option.bind_some]
  rw [List.forIn_nil]
  rfl

theorem scalar_eql {T : Program} {r : List D} {o : Oper} {t u : TypeId} {x y : Operand} {vx vy : Value} {b : Bool} (hop : o.op = .binOp .eql t x y u) (h1 : (opdD r x).val = some vx) (h2 : (opdD r y).val = some vy)
    (hg : pureRun T (eqGuard .eql t x y vx vy) = some ()) (he : pureRun T (binOp .eql t vx vy) = some (.bool b)) : scalarOp T r o = some (.p (.sc (.bool b))) := by
  have ex : valOf r x = vx := by simp [valOf, h1]
  have ey : valOf r y = vy := by simp [valOf, h2]
  unfold scalarOp
  have hops : o.op.operands.toList = [x, y] := by rw [hop]; rfl
  rw [hops]
  simp only [valsOf, h1, h2, Option.map_some]
  have : pureRun T (execOp (valOf r) o) = some (.value (.bool b)) := by
    unfold execOp
    rw [hop]
    show pureRun T (Sem.bind (Sem.bind (eqGuard .eql t x y (valOf r x) (valOf r y)) fun _ => binOp .eql t (valOf r x) (valOf r y)) fun v => Sem.pure (Next.value v)) = some (Next.value (.bool b))
    rw [pureRun_bind, pureRun_bind, ex, ey, hg]
    simp only [Option.bind_some, he]
    rfl
  rw [this]
  rfl
attribute [local irreducible] CallOK
abbrev v5 (x : Int) : P := (.agg [.sc (.int .i64 1), .sc (.int .i64 x), .sc (.bool false), .sc (.string ⟨#[]⟩), .sc (.float .f64 0)])
theorem same_ok (x : Int) (h : List Blk) (ds : List D) (hds : toPs ds = some [v5 x, v5 x]) : CallOK Try.prog 65 ds h fun r h' => r = .ret (.p (.sc (.bool true))) ∧ h' = h := by
  have key : CallOK Try.prog 65 ([.agg [.sc (.int .i64 1), .sc (.int .i64 x), .sc (.bool false), .sc (.string ⟨#[]⟩), .sc (.float .f64 0)], .agg [.sc (.int .i64 1), .sc (.int .i64 x), .sc (.bool false), .sc (.string ⟨#[]⟩), .sc (.float .f64 0)]].map .p) [] (PureGood 1000 (.ret (.p (.sc (.bool true))))) := by
    refine fnok [] 65 Try.f65 _ _ _ rfl ?_
    refine efn_pre (runok 19 65) 1000 3 (S := ⟨[(.p (.agg [(.sc (.int .i64 1)), (.sc (.int .i64 x)), (.sc (.bool false)), (.sc (.string ⟨#[]⟩)), (.sc (.float .f64 0))])), (.p (.agg [(.sc (.int .i64 1)), (.sc (.int .i64 x)), (.sc (.bool false)), (.sc (.string ⟨#[]⟩)), (.sc (.float .f64 0))])), (.lp 2 0), (.lp 3 0), (.p (.sc (.bool false))), (.p (.sc (.int .u64 0))), (.p (.sc (.int .u64 0))), (.lp 2 4), (.p (.sc (.float .f64 0))), (.p (.sc (.int .u64 0))), (.lp 3 4), (.p (.sc (.float .f64 0))), (.p (.sc (.int .u64 0))), (.lp 2 4), (.lp 3 4), .dead, .dead, .dead, .dead, .dead, .dead, .dead, .dead], [.none, .none, (.live [(.p (.sc (.int .i64 1))), (.p (.sc (.int .i64 x))), (.p (.sc (.bool false))), (.p (.sc (.string ⟨#[]⟩))), (.p (.sc (.float .f64 0)))]), (.live [(.p (.sc (.int .i64 1))), (.p (.sc (.int .i64 x))), (.p (.sc (.bool false))), (.p (.sc (.string ⟨#[]⟩))), (.p (.sc (.float .f64 0)))]), .none, .none, .none, .none, .none, .none, .none, .none, .none, .none, .none, .none, .none, .none, .none, .none, .none, .none, .none], [], []⟩) rfl (by kernel_rfl) ?_
    refine (?_ : ecode _ _ _ (.seq (.region _ _ false) .ret) _ _)
    rw [ecode_seq, ecode_region]
    refine eops_pre (runok 19 65) 1000 2 (S := ⟨[(.p (.agg [(.sc (.int .i64 1)), (.sc (.int .i64 x)), (.sc (.bool false)), (.sc (.string ⟨#[]⟩)), (.sc (.float .f64 0))])), (.p (.agg [(.sc (.int .i64 1)), (.sc (.int .i64 x)), (.sc (.bool false)), (.sc (.string ⟨#[]⟩)), (.sc (.float .f64 0))])), (.lp 2 0), (.lp 3 0), (.p (.sc (.bool false))), (.p (.sc (.int .u64 0))), (.p (.sc (.int .u64 0))), (.lp 2 4), (.p (.sc (.float .f64 0))), (.p (.sc (.int .u64 0))), (.lp 3 4), (.p (.sc (.float .f64 0))), (.p (.sc (.int .u64 0))), (.lp 2 4), (.lp 3 4), (.agg [(.p (.sc (.int .i64 1))), (.p (.sc (.int .i64 x))), (.p (.sc (.bool false))), (.p (.sc (.string ⟨#[]⟩))), (.p (.sc (.float .f64 0)))]), (.agg [(.p (.sc (.int .i64 1))), (.p (.sc (.int .i64 x))), (.p (.sc (.bool false))), (.p (.sc (.string ⟨#[]⟩))), (.p (.sc (.float .f64 0)))]), .dead, .dead, .dead, .dead, .dead, .dead], [.none, .none, (.live [(.p (.sc (.int .i64 1))), (.p (.sc (.int .i64 x))), (.p (.sc (.bool false))), (.p (.sc (.string ⟨#[]⟩))), (.p (.sc (.float .f64 0)))]), (.live [(.p (.sc (.int .i64 1))), (.p (.sc (.int .i64 x))), (.p (.sc (.bool false))), (.p (.sc (.string ⟨#[]⟩))), (.p (.sc (.float .f64 0)))]), .none, .none, .none, .none, .none, .none, .none, .none, .none, .none, .none, .none, .none, .none, .none, .none, .none, .none, .none], [], []⟩) (by kernel_rfl) ?_
    refine eops_bin (d := .p (.sc (.bool true))) rfl rfl (by kernel_rfl) (scalar_eql (vx := V5 x) (vy := V5 x) rfl (by kernel_rfl) (by kernel_rfl) (by kernel_rfl) ?_) ?_
    · show pureRun _ (Sem.bind (Op.equal 30 (V5 x) (V5 x)) _) = _
      rw [pureRun_bind, eqx]
      rfl
    refine eops_pre (runok 19 65) 1000 100 (S := ⟨[(.p (.agg [(.sc (.int .i64 1)), (.sc (.int .i64 x)), (.sc (.bool false)), (.sc (.string ⟨#[]⟩)), (.sc (.float .f64 0))])), (.p (.agg [(.sc (.int .i64 1)), (.sc (.int .i64 x)), (.sc (.bool false)), (.sc (.string ⟨#[]⟩)), (.sc (.float .f64 0))])), (.lp 2 0), (.lp 3 0), (.p (.sc (.bool true))), (.p (.sc (.int .u64 0))), (.p (.sc (.int .u64 0))), (.lp 2 4), (.p (.sc (.float .f64 0))), (.p (.sc (.int .u64 0))), (.lp 3 4), (.p (.sc (.float .f64 0))), (.p (.sc (.int .u64 0))), (.lp 2 4), (.lp 3 4), (.agg [(.p (.sc (.int .i64 1))), (.p (.sc (.int .i64 x))), (.p (.sc (.bool false))), (.p (.sc (.string ⟨#[]⟩))), (.p (.sc (.float .f64 0)))]), (.agg [(.p (.sc (.int .i64 1))), (.p (.sc (.int .i64 x))), (.p (.sc (.bool false))), (.p (.sc (.string ⟨#[]⟩))), (.p (.sc (.float .f64 0)))]), (.p (.sc (.bool true))), (.p (.sc (.bool true))), (.p (.sc (.int .u64 0))), (.p (.sc (.int .u64 0))), (.p (.sc (.bool true))), (.p (.sc (.bool true)))], [.none, .none, (.live [(.p (.sc (.int .i64 1))), (.p (.sc (.int .i64 x))), (.p (.sc (.bool false))), (.p (.sc (.string ⟨#[]⟩))), (.p (.sc (.float .f64 0)))]), (.live [(.p (.sc (.int .i64 1))), (.p (.sc (.int .i64 x))), (.p (.sc (.bool false))), (.p (.sc (.string ⟨#[]⟩))), (.p (.sc (.float .f64 0)))]), .none, .none, .none, .none, .none, .none, .none, .none, .none, .none, .none, .none, .none, .none, .none, .none, .none, .none, .none], [], []⟩) (by kernel_rfl) ?_
    exact ⟨_, _, rfl, rfl⟩
  exact key.pure hds h
theorem pbr_t {b : Bool} {x y : Prop} (hb : b = true) (h : x) : pbr b x y := by subst hb; exact pbr_true h
theorem good_ok (x : Int) (h : List Blk) (ds : List D) (hds : toPs ds = some [v5 x]) : CallOK Try.prog 50 ds h fun r h' => r = .ret (.p (.sc (.bool true))) ∧ h' = h := by
  have key : CallOK Try.prog 50 ([.agg [.sc (.int .i64 1), .sc (.int .i64 x), .sc (.bool false), .sc (.string ⟨#[]⟩), .sc (.float .f64 0)]].map .p) [] (PureGood 1000 (.ret (.p (.sc (.bool true))))) := by
    refine fnok [] 50 Try.f50 _ _ _ rfl ?_
    refine efn_pre (runok 19 50) 1000 2 (S := ⟨[(.p (.agg [(.sc (.int .i64 1)), (.sc (.int .i64 x)), (.sc (.bool false)), (.sc (.string ⟨#[]⟩)), (.sc (.float .f64 0))])), (.lp 1 0), (.p (.sc (.bool false))), (.lp 3 0), (.p (.sc (.bool true))), (.p (.tup [(.agg [(.sc (.int .i64 1)), (.sc (.int .i64 x)), (.sc (.bool false)), (.sc (.string ⟨#[]⟩)), (.sc (.float .f64 0))]), (.sc (.bool true))])), (.agg [(.p (.sc (.int .i64 1))), (.p (.sc (.int .i64 x))), (.p (.sc (.bool false))), (.p (.sc (.string ⟨#[]⟩))), (.p (.sc (.float .f64 0)))]), (.p (.tup [(.agg [(.sc (.int .i64 1)), (.sc (.int .i64 x)), (.sc (.bool false)), (.sc (.string ⟨#[]⟩)), (.sc (.float .f64 0))]), (.sc (.bool true))])), (.p (.agg [(.sc (.int .i64 1)), (.sc (.int .i64 x)), (.sc (.bool false)), (.sc (.string ⟨#[]⟩)), (.sc (.float .f64 0))])), (.p (.sc (.bool true))), .dead, .dead, .dead, .dead, .dead, .dead, .dead, .dead, .dead, .dead, .dead, .dead], [.none, (.live [(.p (.sc (.int .i64 1))), (.p (.sc (.int .i64 x))), (.p (.sc (.bool false))), (.p (.sc (.string ⟨#[]⟩))), (.p (.sc (.float .f64 0)))]), .none, (.live [(.p (.sc (.int .i64 1))), (.p (.sc (.int .i64 x))), (.p (.sc (.bool false))), (.p (.sc (.string ⟨#[]⟩))), (.p (.sc (.float .f64 0)))]), .none, .none, .none, .none, .none, .none, .none, .none, .none, .none, .none, .none, .none, .none, .none, .none, .none, .none], [], []⟩) rfl (by kernel_rfl) ?_
    refine (?_ : ecode _ _ _ (.seq (.region _ _ false) .ret) _ _)
    rw [ecode_seq, ecode_region]
    refine eops_pre (runok 19 50) 1000 4 (S := ⟨[(.p (.agg [(.sc (.int .i64 1)), (.sc (.int .i64 x)), (.sc (.bool false)), (.sc (.string ⟨#[]⟩)), (.sc (.float .f64 0))])), (.lp 1 0), (.p (.sc (.bool false))), (.lp 3 0), (.p (.sc (.bool true))), (.p (.tup [(.agg [(.sc (.int .i64 1)), (.sc (.int .i64 x)), (.sc (.bool false)), (.sc (.string ⟨#[]⟩)), (.sc (.float .f64 0))]), (.sc (.bool true))])), (.agg [(.p (.sc (.int .i64 1))), (.p (.sc (.int .i64 x))), (.p (.sc (.bool false))), (.p (.sc (.string ⟨#[]⟩))), (.p (.sc (.float .f64 0)))]), (.p (.tup [(.agg [(.sc (.int .i64 1)), (.sc (.int .i64 x)), (.sc (.bool false)), (.sc (.string ⟨#[]⟩)), (.sc (.float .f64 0))]), (.sc (.bool true))])), (.p (.agg [(.sc (.int .i64 1)), (.sc (.int .i64 x)), (.sc (.bool false)), (.sc (.string ⟨#[]⟩)), (.sc (.float .f64 0))])), (.p (.sc (.bool true))), (.p (.sc (.bool true))), (.p (.sc (.bool true))), (.agg [(.p (.sc (.int .i64 1))), (.p (.sc (.int .i64 x))), (.p (.sc (.bool false))), (.p (.sc (.string ⟨#[]⟩))), (.p (.sc (.float .f64 0)))]), (.agg [(.p (.sc (.int .i64 1))), (.p (.sc (.int .i64 x))), (.p (.sc (.bool false))), (.p (.sc (.string ⟨#[]⟩))), (.p (.sc (.float .f64 0)))]), .dead, .dead, .dead, .dead, .dead, .dead, .dead, .dead], [.none, (.live [(.p (.sc (.int .i64 1))), (.p (.sc (.int .i64 x))), (.p (.sc (.bool false))), (.p (.sc (.string ⟨#[]⟩))), (.p (.sc (.float .f64 0)))]), .none, (.live [(.p (.sc (.int .i64 1))), (.p (.sc (.int .i64 x))), (.p (.sc (.bool false))), (.p (.sc (.string ⟨#[]⟩))), (.p (.sc (.float .f64 0)))]), .none, .none, .none, .none, .none, .none, .none, .none, .none, .none, .none, .none, .none, .none, .none, .none, .none, .none], [], []⟩) (by kernel_rfl) ?_
    conv => whnf
    refine pbr_t rfl ?_
    conv => whnf
    refine callMono_ok _ _ _ _ _ ?_ (same_ok x _ _ (by kernel_rfl))
    rintro r h ⟨rfl, rfl⟩
    refine (?_ : eops _ _ _ _ _ (_ :: _) _ _)
    refine eops_pre (runok 19 50) 1000 100 (S := ⟨[(.p (.agg [(.sc (.int .i64 1)), (.sc (.int .i64 x)), (.sc (.bool false)), (.sc (.string ⟨#[]⟩)), (.sc (.float .f64 0))])), (.lp 1 0), (.p (.sc (.bool true))), (.lp 3 0), (.p (.sc (.bool true))), (.p (.tup [(.agg [(.sc (.int .i64 1)), (.sc (.int .i64 x)), (.sc (.bool false)), (.sc (.string ⟨#[]⟩)), (.sc (.float .f64 0))]), (.sc (.bool true))])), (.agg [(.p (.sc (.int .i64 1))), (.p (.sc (.int .i64 x))), (.p (.sc (.bool false))), (.p (.sc (.string ⟨#[]⟩))), (.p (.sc (.float .f64 0)))]), (.p (.tup [(.agg [(.sc (.int .i64 1)), (.sc (.int .i64 x)), (.sc (.bool false)), (.sc (.string ⟨#[]⟩)), (.sc (.float .f64 0))]), (.sc (.bool true))])), (.p (.agg [(.sc (.int .i64 1)), (.sc (.int .i64 x)), (.sc (.bool false)), (.sc (.string ⟨#[]⟩)), (.sc (.float .f64 0))])), (.p (.sc (.bool true))), (.p (.sc (.bool true))), (.p (.sc (.bool true))), (.agg [(.p (.sc (.int .i64 1))), (.p (.sc (.int .i64 x))), (.p (.sc (.bool false))), (.p (.sc (.string ⟨#[]⟩))), (.p (.sc (.float .f64 0)))]), (.agg [(.p (.sc (.int .i64 1))), (.p (.sc (.int .i64 x))), (.p (.sc (.bool false))), (.p (.sc (.string ⟨#[]⟩))), (.p (.sc (.float .f64 0)))]), (.p (.sc (.bool true))), (.p (.sc (.bool true))), (.p (.sc (.bool true))), (.lp 1 3), (.p (.sc (.string ⟨#[]⟩))), (.p (.sc (.int .i64 0))), (.p (.sc (.bool true))), (.p (.sc (.bool true)))], [.none, (.live [(.p (.sc (.int .i64 1))), (.p (.sc (.int .i64 x))), (.p (.sc (.bool false))), (.p (.sc (.string ⟨#[]⟩))), (.p (.sc (.float .f64 0)))]), .none, (.live [(.p (.sc (.int .i64 1))), (.p (.sc (.int .i64 x))), (.p (.sc (.bool false))), (.p (.sc (.string ⟨#[]⟩))), (.p (.sc (.float .f64 0)))]), .none, .none, .none, .none, .none, .none, .none, .none, .none, .none, .none, .none, .none, .none, .none, .none, .none, .none], [], []⟩) (by kernel_rfl) ?_
    exact ⟨_, _, rfl, rfl⟩
  exact key.pure hds h

/-- value.Good of an int, whichever -/
def isInt5 : List D → Option (List P) → Bool
  | [_], some [.agg [.sc (.int .i64 1), .sc (.int .i64 _), .sc (.bool false), .sc (.string ⟨⟨[]⟩⟩), .sc (.float .f64 0)]] => true
  | _, _ => false
noncomputable def goodM (ds : List D) (h : List Blk) : RO := match isInt5 ds (toPs ds) with
  | true => some (.ret (.p (.sc (.bool true))), h)
  | false => (run Try.prog cau mode 15 30).call 50 ds h
noncomputable def mode2 : FuncId → FuncId → RMode := fun g f => if f == 50 then .spec goodM else mode g f
theorem goodM_ok : ∀ ds h r h', goodM ds h = some (r, h') → CallOK Try.prog 50 ds h fun r' h'' => r' = r ∧ h'' = h' := by
  intro ds h r h' e
  unfold goodM at e
  split at e
  · rename_i hi
    unfold isInt5 at hi
    split at hi
    · rename_i n hps
      simp only [Option.some.injEq, Prod.mk.injEq] at e
      obtain ⟨rfl, rfl⟩ := e
      exact good_ok n _ _ hps
    · cases hi
  · exact (runok 15 30).call 50 ds h r h' e
theorem specs2 : SpecOK Try.prog mode2 where
  spec g f F hF ds h r h' e := by
    unfold mode2 at hF
    split at hF
    · rename_i hc
      simp only [beq_iff_eq] at hc
      subst hc
      simp only [RMode.spec.injEq] at hF; subst hF
      exact goodM_ok ds h r h' e
    · exact specs.spec g f F hF ds h r h' e
  keep g f F hF ds h r e := by
    unfold mode2 at hF
    split at hF
    · cases hF
    · exact specs.keep g f F hF ds h r e
theorem runok2 (d : Nat) (g : FuncId) : RunOK Try.prog (run Try.prog cau mode2 d g) := run_ok fnok specs2 d g
end Go.AE
