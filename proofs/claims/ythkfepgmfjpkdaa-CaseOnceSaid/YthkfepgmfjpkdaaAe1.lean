/- An evaluator of the program's code over plain data, and its soundness (part 1). No condition. -/
import Derived.Test.YthkfepgmfjpkdaaAe0
import Derived.Laws.Append
import Derived.Laws.AppendOwn
import Derived.Laws.BytesString
import Derived.Lib.ConvBytes
set_option linter.all false

section
namespace Go.AE
open Go

theorem exists_list {α : Type} (n : Nat) (p : Nat → α → Prop) (h : ∀ j, j < n → ∃ v, p j v) : ∃ vs : List α, vs.length = n ∧ ∀ j v, vs[j]? = some v → p j v := by
  induction n with
  | zero => exact ⟨[], rfl, by simp⟩
  | succ n ih =>
    obtain ⟨vs, h1, h2⟩ := ih fun j hj => h j (by omega)
    obtain ⟨v, hv⟩ := h n (by omega)
    refine ⟨vs ++ [v], by simp [h1], fun j u hj => ?_⟩
    by_cases hlt : j < n
    · rw [List.getElem?_append_left (by omega)] at hj; exact h2 j u hj
    · rw [List.getElem?_append_right (by omega)] at hj
      have : j - vs.length = 0 := by
        have := (List.getElem?_eq_some_iff.1 hj).1
        simp at this; omega
      rw [this] at hj
      simp only [List.getElem?_cons_zero, Option.some.injEq] at hj
      subst hj
      rwa [show j = n by omega]

theorem isCell_one {v : Value} (h : isCell v = true) : v.oneCell' = true := by cases v <;> simp_all [isCell, Value.oneCell']

section
variable {T : Program} {B : Base} {C : Ctx} {st : St} {a : Act} {w w' : World} {o : Oper}

theorem run_loadAgg {t : TypeId} {d : TypeDesc} {b of : Nat} {vs : List Value} (hu : T.underlying t = some d) (ha : isAggT T t = true) (hl : vs.length = sizeT T t)
    (h : ∀ j v, vs[j]? = some v → w.cell? ⟨b, of + j, none⟩ = some v) : (loadVar t ⟨b, of, none⟩).run T w = .ok (.agg vs.toArray) w := by
  obtain ⟨i, hi⟩ := info_of_underlying hu
  have := run_loadCells_list (P := T) w ⟨b, of, none⟩ vs (fun k v h' => by rw [Addr.add_lit]; exact h k v h')
  simp [loadVar, run_isAggT hu, ha, run_sizeT hi, ← hl, this, Result.andThen]
theorem run_loadOne {t : TypeId} {d : TypeDesc} {b of : Nat} {v : Value} (hu : T.underlying t = some d) (ha : isAggT T t = false)
    (h : w.cell? ⟨b, of, none⟩ = some v) : (loadVar t ⟨b, of, none⟩).run T w = .ok v w := by
  simp [loadVar, run_isAggT hu, ha, Result.andThen, h]

theorem getL_drop {α : Type} (l : List α) (n i : Nat) : getL (l.drop n) i = getL l (n + i) := by
  rw [getL_eq, getL_eq, List.getElem?_drop]
theorem getL_take {α : Type} (l : List α) (n i : Nat) : getL (l.take n) i = if i < n then getL l i else none := by
  rw [getL_eq, getL_eq, List.getElem?_take]
theorem getL_some {α : Type} {l : List α} {i : Nat} (h : i < l.length) : ∃ x, getL l i = some x := by
  rw [getL_eq]; exact ⟨l[i], by simp [h]⟩

/-- cells in a row, read as one -/
theorem load_cells {ds : List D} {b of off n : Nat} (h : ∀ j d, getL ds j = some d → ∃ v, w.cell? ⟨b, of + j, none⟩ = some v ∧ RepD C d v) (hn : off + n ≤ ds.length) :
    ∃ vs : List Value, vs.length = n ∧ (∀ j v, vs[j]? = some v → w.cell? ⟨b, of + off + j, none⟩ = some v) ∧ RepDs C ((ds.drop off).take n) vs := by
  obtain ⟨vs, h1, h2⟩ := exists_list n (fun j v => w.cell? ⟨b, of + off + j, none⟩ = some v ∧ ∀ d, getL ds (off + j) = some d → RepD C d v) fun j hj => by
    obtain ⟨d, hd⟩ := getL_some (l := ds) (i := off + j) (by omega)
    obtain ⟨v, hv, hr⟩ := h _ d hd
    refine ⟨v, by rw [← hv]; congr 2; omega, fun d' hd' => ?_⟩
    rw [hd, Option.some.injEq] at hd'; subst hd'; exact hr
  refine ⟨vs, h1, fun j v hj => (h2 j v hj).1, RepDs.mk (by simp; omega) fun i d v hd hv => ?_⟩
  rw [getL_take] at hd
  split at hd
  · rw [getL_drop] at hd; exact (h2 i v hv).2 d hd
  · simp at hd

theorem loadD_ok {t : TypeId} {td : TypeDesc} {ex : List (D × Value)} (R : Rel B C st a w ex) (hu : T.underlying t = some td) {p d : D} {pv : Value} (hp : RepD C p pv) (h : loadD T st t p = some d) :
    ∃ v, (Instr.loadAt t pv).run T w = .ok v w ∧ RepD C d v ∧ loose d = true := by
  have live : ∀ (k : K) (ds : List D) (off : Nat), cellsOf st k = some ds → pv = .pointer (some ⟨C.β k, off, none⟩) →
      (if isAggT T t then (if off + sizeT T t ≤ ds.length then some (downD (.agg ((ds.drop off).take (sizeT T t)))) else none) else (getL ds off).map downD) = some d →
      ∃ v, (Instr.loadAt t pv).run T w = .ok v w ∧ RepD C d v ∧ loose d = true := by
    intro k ds off hk hpv h
    subst hpv
    split at h
    · rename_i ha
      split at h
      · rename_i hl
        simp only [Option.some.injEq] at h; subst h
        obtain ⟨vs, h1, h2, h3⟩ := load_cells (C := C) (w := w) (ds := ds) (b := C.β k) (of := 0) (off := off) (n := sizeT T t)
          (fun j d hd => by obtain ⟨_, v, h1, _, h2, _⟩ := R.cells k ds j d hk hd; exact ⟨v, by simpa using h1, h2⟩) hl
        refine ⟨.agg vs.toArray, ?_, RepD.down (d := .agg _) (by simp only [RepD]; exact ⟨vs.toArray, rfl, by simpa using h3⟩), loose_downD _⟩
        simp only [Instr.loadAt, Instr.sureAddr, Sem.run_bind, Sem.run_pure, Result.andThen_ok]
        exact run_loadAgg hu ha h1 (fun j v hj => by simpa using h2 j v hj)
      · simp at h
    · rename_i ha
      simp only [Option.map_eq_some_iff] at h
      obtain ⟨x, hx, rfl⟩ := h
      obtain ⟨_, v, h1, _, h2, _⟩ := R.cells k ds off x hk hx
      refine ⟨v, ?_, h2.down, loose_downD _⟩
      simp only [Instr.loadAt, Instr.sureAddr, Sem.run_bind, Sem.run_pure, Result.andThen_ok]
      exact run_loadOne hu (by simpa using ha) h1
  have sealed : ∀ (k : K) (ps : List P) (off : Nat), RepCells C.Φ (C.β k) ps 0 → pv = .pointer (some ⟨C.β k, off, none⟩) →
      (if isAggT T t then (if off + sizeT T t ≤ ps.length then some (D.p (.agg ((ps.drop off).take (sizeT T t)))) else none) else (getL ps off).map .p) = some d →
      ∃ v, (Instr.loadAt t pv).run T w = .ok v w ∧ RepD C d v ∧ loose d = true := by
    intro k ps off hc hpv h
    subst hpv
    have hc' : ∀ j d, getL (ps.map D.p) j = some d → ∃ v, w.cell? ⟨C.β k, 0 + j, none⟩ = some v ∧ RepD C d v := by
      intro j d hd
      rw [getL_map, Option.map_eq_some_iff] at hd
      obtain ⟨q, hq, rfl⟩ := hd
      obtain ⟨v, h1, h2, h3⟩ := hc.get hq
      exact ⟨v, R.sub _ _ _ h1, by simp only [RepD]; exact h3⟩
    split at h
    · rename_i ha
      split at h
      · rename_i hl
        simp only [Option.some.injEq] at h; subst h
        obtain ⟨vs, h1, h2, h3⟩ := load_cells (C := C) (w := w) (ds := ps.map D.p) (b := C.β k) (of := 0) (off := off) (n := sizeT T t) hc' (by simpa using hl)
        refine ⟨.agg vs.toArray, ?_, ?_, rfl⟩
        · simp only [Instr.loadAt, Instr.sureAddr, Sem.run_bind, Sem.run_pure, Result.andThen_ok]
          exact run_loadAgg hu ha h1 (fun j v hj => by simpa using h2 j v hj)
        · simp only [RepD, RepP]
          refine ⟨vs.toArray, rfl, ?_⟩
          refine toPs_rep (C := C) (ds := ((ps.map D.p).drop off).take (sizeT T t)) ?_ (by simpa using h3)
          rw [← List.map_drop, ← List.map_take]
          generalize (ps.drop off).take (sizeT T t) = qs
          induction qs with
          | nil => rfl
          | cons q qs ih => simp [toPs, D.toP, ih]
      · simp at h
    · rename_i ha
      simp only [Option.map_eq_some_iff] at h
      obtain ⟨x, hx, rfl⟩ := h
      obtain ⟨v, h1, h2⟩ := hc' off (.p x) (by rw [getL_map, hx]; rfl)
      refine ⟨v, ?_, h2, rfl⟩
      simp only [Instr.loadAt, Instr.sureAddr, Sem.run_bind, Sem.run_pure, Result.andThen_ok]
      exact run_loadOne hu (by simpa using ha) (by simpa using h1)
  cases p with
  | lp s off =>
    simp only [RepD] at hp
    simp only [loadD] at h
    split at h
    · rename_i ds hds
      exact live (.box s) ds off (by simp [cellsOf, hds]) hp.2 h
    · rename_i ps hps
      exact sealed (.box s) ps off (R.seals s ps hps) hp.2 h
    · simp at h
  | ref id off =>
    simp only [RepD] at hp
    simp only [loadD] at h
    split at h
    · rename_i ds hds
      exact live (.blk id) ds off (by simp [cellsOf, hds]) hp.2 h
    · rename_i ps hps
      exact sealed (.blk id) ps off (R.frzs id ps hps) hp.2 h
    · simp at h
  | _ => simp [loadD] at h

/-- a load through a pointer into immutable data -/
theorem loadEp_ok {t : TypeId} {td : TypeDesc} {ex : List (D × Value)} (R : Rel B C st a w ex) (hu : T.underlying t = some td) {wd i off : Nat} {rows : List (List P)} {row : List P} {pv : Value}
    (hp : RepP C.Φ (.ep wd rows i off) pv) (hr : getL rows i = some row) :
    (∀ n, isAggT T t = true → sizeT T t = n → off + n ≤ row.length → ∃ v, (Instr.loadAt t pv).run T w = .ok v w ∧ RepP C.Φ (.agg ((row.drop off).take n)) v) ∧
    (∀ x, isAggT T t = false → getL row off = some x → ∃ v, (Instr.loadAt t pv).run T w = .ok v w ∧ RepP C.Φ x v) := by
  simp only [RepP] at hp
  obtain ⟨b, o', rfl, hrows⟩ := hp
  obtain ⟨hlen, hcells⟩ := hrows.get hr
  refine ⟨fun n ha hn hl => ?_, fun x ha hx => ?_⟩
  · obtain ⟨vs, h1, h2⟩ := exists_list n (fun j v => w.cell? ⟨b, o' + i * wd + off + j, none⟩ = some v ∧ ∀ p, getL row (off + j) = some p → RepP C.Φ p v) fun j hj => by
      obtain ⟨p, hp⟩ := getL_some (l := row) (i := off + j) (by omega)
      obtain ⟨v, e1, e2, e3⟩ := hcells.get hp
      refine ⟨v, by rw [← R.sub _ _ _ e1]; congr 2; omega, fun p' hp' => ?_⟩
      rw [hp, Option.some.injEq] at hp'; subst hp'; exact e3
    refine ⟨.agg vs.toArray, ?_, ?_⟩
    · simp only [Instr.loadAt, Instr.sureAddr, Sem.run_bind, Sem.run_pure, Result.andThen_ok]
      exact run_loadAgg hu ha (by rw [h1, hn]) (fun j v hj => (h2 j v hj).1)
    · simp only [RepP]
      refine ⟨vs.toArray, rfl, RepPs.mk (by simp; omega) fun j p v hp hv => ?_⟩
      rw [getL_take] at hp
      split at hp
      · rw [getL_drop] at hp; exact (h2 j v (by simpa using hv)).2 p hp
      · simp at hp
  · obtain ⟨v, e1, e2, e3⟩ := hcells.get hx
    refine ⟨v, ?_, e3⟩
    simp only [Instr.loadAt, Instr.sureAddr, Sem.run_bind, Sem.run_pure, Result.andThen_ok]
    exact run_loadOne hu ha (R.sub _ _ _ e1)
end
end Go.AE
end

section
namespace Go.AE
open Go
section
variable {T : Program} {B : Base} {C : Ctx} {st : St} {a : Act} {w w' : World} {o : Oper}

theorem cells_length {d : D} {v : Value} (h : RepDs C d.cells v.cells.toList) : d.cells.length = v.cells.size := by
  have := h.length; simpa using this

theorem okArg_cells {d : D} (ha : okArg d = true) : ∀ i x, getL d.cells i = some x → okArg x = true := by
  intro i x hx
  have one : ∀ {e : D}, okArg e = true → getL [e] i = some x → okArg x = true := by
    intro e he h; cases i <;> simp [getL] at h; subst h; exact he
  cases d with
  | p q =>
    cases q with
    | agg ps => exact (mapP_loose hx).2
    | _ => exact one ha hx
  | agg ds =>
    simp only [D.cells] at hx
    simp only [okArg] at ha
    have : ∀ (ds : List D) i y, okArgs ds = true → getL ds i = some y → okArg y = true := by
      intro ds
      induction ds with
      | nil => intro i y _ h; simp [getL] at h
      | cons z zs ih =>
        intro i y hz h
        simp only [okArgs, Bool.and_eq_true] at hz
        cases i with
        | zero => simp only [getL, Option.some.injEq] at h; subst h; exact hz.1
        | succ i => exact ih i y hz.2 (by simpa [getL] using h)
    exact this ds i x ha hx
  | _ => exact one ha hx

theorem run_storeAt {t : TypeId} {td : TypeDesc} {b off : Nat} {v : Value} (hu : T.underlying t = some td) (hl : v.cells.size = sizeT T t)
    (hc : ∀ j, j < v.cells.size → (w.cell? ⟨b, off + j, none⟩).isSome = true) (hf : ∀ j, j < v.cells.size → w.frozen? ⟨b, off + j, none⟩ = false)
    (h1 : ∀ u ∈ v.cells.toList, isCell u = true) :
    (Instr.storeAt t (.pointer (some ⟨b, off, none⟩)) v).run T w = .ok () (w.setCells b off v.cells.toList) := by
  obtain ⟨i, hi⟩ := info_of_underlying hu
  have := run_storeCells_cells (P := T) b off v.cells.toList 0 w (by simpa using hc) (by simpa using hf) (fun u hu => isCell_one (h1 u hu))
  simp [Instr.storeAt, Instr.sureAddr, storeVar, run_sizeT hi, hl, Result.andThen, this]

theorem storeD_inv {t : TypeId} {d p : D} {st' : St} (h : storeD T st t d p = some st') :
    ∃ k ds off, cellsOf st k = some ds ∧ (∀ pv, RepD C p pv → pv = .pointer (some ⟨C.β k, off, none⟩)) ∧ okCells d = true ∧ okArg d = true ∧ d.cells.length = sizeT T t ∧ off + sizeT T t ≤ ds.length ∧
      st' = setC st (setN ds off d.cells) k := by
  cases p with
  | lp s off =>
    simp only [storeD] at h
    split at h
    · rename_i ds hds
      split at h
      · rename_i hc
        simp only [Option.some.injEq] at h
        exact ⟨.box s, ds, off, by simp [cellsOf, hds], fun pv hp => by simp only [RepD] at hp; exact hp.2, hc.1, hc.2.1, hc.2.2.1, hc.2.2.2, h.symm⟩
      · simp at h
    · simp at h
  | ref id off =>
    simp only [storeD] at h
    split at h
    · rename_i ds hds
      split at h
      · rename_i hc
        simp only [Option.some.injEq] at h
        exact ⟨.blk id, ds, off, by simp [cellsOf, hds], fun pv hp => by simp only [RepD] at hp; exact hp.2, hc.1, hc.2.1, hc.2.2.1, hc.2.2.2, h.symm⟩
      · simp at h
    · simp at h
  | _ => simp [storeD] at h

theorem giveR_setC (st : St) (ds : List D) (k : K) (t : Tmp) : giveR (setC st ds k) t = setC (giveR st t) ds k := by
  cases k <;> rfl

theorem store_run {t : TypeId} {td : TypeDesc} {ex : List (D × Value)} (R : Rel B C st a w ex) (hu : T.underlying t = some td) {k : K} {ds : List D} {off : Nat} {d : D} {v : Value}
    (hk : cellsOf st k = some ds) (hok : okCells d = true) (hl : d.cells.length = sizeT T t) (hb : off + sizeT T t ≤ ds.length) (hr : RepD C d v) :
    (Instr.storeAt t (.pointer (some ⟨C.β k, off, none⟩)) v).run T w = .ok () (w.setCells (C.β k) off v.cells.toList) := by
  obtain ⟨h1, h2⟩ := okCells_rep hok hr
  have hlen := cells_length h1
  refine run_storeAt hu (by omega) (fun j hj => ?_) (fun j hj => ?_) h2
  · obtain ⟨x, hx⟩ := getL_some (l := ds) (i := off + j) (by omega)
    obtain ⟨_, u, hu', _⟩ := R.cells k ds (off + j) x hk hx
    rw [hu']; rfl
  · obtain ⟨x, hx⟩ := getL_some (l := ds) (i := off + j) (by omega)
    obtain ⟨_, u, _, _, _, hf⟩ := R.cells k ds (off + j) x hk hx
    exact hf

variable {CALL : FuncId → List D → List Blk → (Res → List Blk → Prop) → Prop} {DFR : List (FuncId × List D) → Ex → List Blk → (Ex → List Blk → Prop) → Prop} {esc ap : List Tmp}

theorem underlying_some {t : TypeId} (h : ¬ (T.underlying t).isNone = true) : ∃ td, T.underlying t = some td := by
  cases e : T.underlying t with
  | none => simp [e] at h
  | some td => exact ⟨td, rfl⟩

theorem okCells_loose {d : D} (h : okCells (downD d) = true) : ∀ i x, getL (downD d).cells i = some x → loose x = true := by
  intro i x hx
  cases d with
  | p q =>
    cases q with
    | agg ps => exact (mapP_loose hx).1
    | _ => simp only [downD, D.cells] at hx; cases i <;> simp [getL] at hx; subst hx; rfl
  | agg ds =>
    simp only [downD, D.cells, getL_map, Option.map_eq_some_iff] at hx
    obtain ⟨y, _, rfl⟩ := hx
    exact loose_down1 y
  | _ => simp only [downD, D.cells] at hx; cases i <;> simp [getL] at hx; subst hx; rfl

theorem store_ok {t : TypeId} {pa va : Operand} (R : Rel B C st a w []) (hop : o.op = .store t pa va) {k : D → St → Prop} {kp : P → St → Prop}
    (h : eop T (AP CALL DFR) esc ap st o k kp) : OpOK T B o a w k kp := by
  unfold eop at h
  rw [hop] at h
  simp only [] at h
  split at h
  · exact h.elim
  rename_i hun
  obtain ⟨td, hu⟩ := underlying_some hun
  have hexec : execOp a.eval o = (do Instr.storeAt t (a.eval pa) (a.eval va); pure .skip) := by
    unfold execOp; rw [hop]
  split at h
  · -- a slice out of a register: its tail goes along
    rename_i vt wd rows hd0
    obtain ⟨rfl, hd⟩ : va = .tmp vt ∧ opdD st.r va = .own wd rows := by
      unfold ownOf at hd0
      split at hd0
      · rename_i hd1; simp only [Option.some.injEq, Prod.mk.injEq] at hd0; obtain ⟨rfl, rfl, rfl⟩ := hd0; exact ⟨rfl, hd1⟩
      · simp at hd0
    unfold optR at h
    split at h
    · rename_i st' hst
      obtain ⟨kk, ds, off, h1, h2, h3, h4, h5, h6, rfl⟩ := storeD_inv (C := C) hst
      have hpv := h2 _ (R.opd pa)
      have hrd : RepD C (.own wd rows) (a.eval (.tmp vt)) := by rw [← hd]; exact R.opd (.tmp vt)
      have hrun := store_run R hu h1 h3 h5 h6 hrd
      obtain ⟨r1, r2⟩ := okCells_rep h3 hrd
      have R2 := R.give vt
      rw [hd] at R2
      have hk2 : cellsOf (giveR st vt) kk = some ds := by cases kk <;> exact h1
      have R3 := R2.store (off := off) (ex' := []) hk2 r1 r2 (okArg_cells h4) (by omega) (fun n => 1 + n) (fun i j e => by simpa using e) (fun j q hq => by simp [getL] at hq)
        (fun i x v hx hv => by
          right
          refine ⟨rfl, 0, ?_, fun i => by omega⟩
          cases i with
          | zero =>
            simp only [D.cells, getL, Option.some.injEq] at hx
            have hcv : (a.eval (.tmp vt)).cells = #[a.eval (.tmp vt)] := by
              simp only [RepD, RepP] at hrd
              obtain ⟨b, o', cap, e, _⟩ := hrd
              rw [e]; rfl
            rw [hcv] at hv
            simp at hv
            simp [getL, ← hx, hv]
          | succ i => simp [D.cells, getL] at hx)
      rw [← giveR_setC] at R3
      refine ok_skip (C' := C) ?_ h R3
      rw [hexec, hpv]
      simp [hrun, Result.andThen]
    · exact h.elim
  · unfold optR at h
    split at h
    · rename_i st' hst
      obtain ⟨kk, ds, off, h1, h2, h3, h4, h5, h6, rfl⟩ := storeD_inv (C := C) hst
      have hpv := h2 _ (R.opd pa)
      have hrd := (R.opd va).down
      have hrun := store_run R hu h1 h3 h5 h6 hrd
      obtain ⟨r1, r2⟩ := okCells_rep h3 hrd
      have R3 := R.store (off := off) (ex' := []) h1 r1 r2 (okArg_cells h4) (by omega) (fun n => n) (fun i j e => e) (fun j q hq => by simp [getL] at hq)
        (fun i x v hx hv => .inl (okCells_loose h3 i x hx))
      refine ok_skip (C' := C) ?_ h R3
      rw [hexec, hpv]
      simp [hrun, Result.andThen]
    · exact h.elim
end
end Go.AE
end

section
namespace Go.AE
open Go
section
variable {T : Program} {B : Base} {C : Ctx} {st : St} {a : Act} {w w' : World} {o : Oper}

theorem fieldT_spec {s f off : Nat} {t : TypeId} (h : fieldT T s f = some (off, t)) :
    ∃ fs x td, T.underlying s = some (.struct fs) ∧ fs[f]? = some x ∧ x.offset = off ∧ x.type = t ∧ T.underlying t = some td := by
  unfold fieldT at h
  split at h
  · rename_i fs hfs
    split at h
    · rename_i x hx
      split at h
      · rename_i hs
        simp only [Option.some.injEq, Prod.mk.injEq] at h
        obtain ⟨rfl, rfl⟩ := h
        obtain ⟨td, htd⟩ := Option.isSome_iff_exists.1 hs
        exact ⟨fs, x, td, hfs, hx, rfl, rfl, htd⟩
      · simp at h
    · simp at h
  · simp at h

theorem run_fieldAt {s f off b o' : Nat} {t : TypeId} (h : fieldT T s f = some (off, t)) (hz : sizeT T t ≠ 0) :
    (Instr.fieldAt s (.pointer (some ⟨b, o', none⟩)) f).run T w = .ok (.pointer (some ⟨b, o' + off, none⟩)) w := by
  obtain ⟨fs, x, td, h1, h2, rfl, rfl, h3⟩ := fieldT_spec h
  obtain ⟨i, hi⟩ := info_of_underlying h3
  simp only [Instr.fieldAt, Sem.run_bind, run_underlying h1, Result.andThen_ok, h2, Instr.sureAddr, Sem.run_pure, fieldPlace, run_sizeT hi, if_neg hz, Addr.add_lit]

theorem run_part {t : TypeId} {td : TypeDesc} {cs : Array Value} {off : Nat} (hu : T.underlying t = some td) :
    (isAggT T t = true → (part t cs off).run T w = .ok (.agg (cs.extract off (off + sizeT T t))) w) ∧
    (isAggT T t = false → ∀ v, cs[off]? = some v → (part t cs off).run T w = .ok v w) := by
  obtain ⟨i, hi⟩ := info_of_underlying hu
  constructor
  · intro ha
    simp [part, run_isAggT hu, ha, run_sizeT hi, Result.andThen]
  · intro ha v hv
    simp [part, run_isAggT hu, ha, hv, Result.andThen]

theorem extract_rep {ds : List D} {vs : List Value} {off n : Nat} (h : RepDs C ds vs) : RepDs C ((ds.drop off).take n) ((vs.drop off).take n) := by
  have hl := h.length
  refine RepDs.mk (by simp [hl]) fun i d v hd hv => ?_
  rw [getL_take] at hd
  rw [List.getElem?_take] at hv
  split at hd
  · rename_i hi
    rw [if_pos hi, List.getElem?_drop] at hv
    rw [getL_drop] at hd
    obtain ⟨u, h1, h2⟩ := h.get hd
    rw [h1, Option.some.injEq] at hv; subst hv; exact h2
  · simp at hd

theorem extract_repP {Φ : Nat → Nat → Option Value} {ds : List P} {vs : List Value} {off n : Nat} (h : RepPs Φ ds vs) : RepPs Φ ((ds.drop off).take n) ((vs.drop off).take n) := by
  have hl := h.length
  refine RepPs.mk (by simp [hl]) fun i d v hd hv => ?_
  rw [getL_take] at hd
  rw [List.getElem?_take] at hv
  split at hd
  · rename_i hi
    rw [if_pos hi, List.getElem?_drop] at hv
    rw [getL_drop] at hd
    obtain ⟨u, h1, h2⟩ := h.get hd
    rw [h1, Option.some.injEq] at hv; subst hv; exact h2
  · simp at hd

theorem toList_extract' (cs : Array Value) (a b : Nat) : (cs.extract a (a + b)).toList = (cs.toList.drop a).take b := by
  simp [Array.toList_extract, List.extract_eq_take_drop]

theorem RepD_get_loose {ds : List D} {i : Nat} {d : D} (h : getL (ds.map down1) i = some d) : loose d = true := by
  rw [getL_map, Option.map_eq_some_iff] at h
  obtain ⟨x, _, rfl⟩ := h
  exact loose_down1 x

theorem field_ok {ex : List (D × Value)} (R : Rel B C st a w ex) {s f off : Nat} {t : TypeId} {x : Operand} {d : D} (hf : fieldT T s f = some (off, t))
    (h : (∃ ds, downD (opdD st.r x) = .agg ds ∧ (if isAggT T t then (if off + sizeT T t ≤ ds.length then some (.agg ((ds.drop off).take (sizeT T t))) else none) else getL ds off) = some d) ∨
      (∃ ps, downD (opdD st.r x) = .p (.agg ps) ∧ (if isAggT T t then (if off + sizeT T t ≤ ps.length then some (.p (.agg ((ps.drop off).take (sizeT T t)))) else none) else (getL ps off).map .p) = some d)) :
    ∃ v, (Instr.field s (a.eval x) f).run T w = .ok v w ∧ RepD C d v ∧ loose d = true := by
  obtain ⟨fs, y, td, h1, h2, rfl, rfl, h3⟩ := fieldT_spec hf
  have hrd := (R.opd x).down
  have hrun : ∀ cs, a.eval x = .agg cs → (Instr.field s (a.eval x) f).run T w = (part y.type cs y.offset).run T w := by
    intro cs e
    simp [Instr.field, run_underlying h1, h2, e, asAgg, Result.andThen]
  rcases h with ⟨ds, e, h⟩ | ⟨ps, e, h⟩
  · rw [e] at hrd
    simp only [RepD] at hrd
    obtain ⟨vs, hv, hr⟩ := hrd
    split at h
    · rename_i ha
      split at h
      · simp only [Option.some.injEq] at h; subst h
        refine ⟨_, by rw [hrun vs hv]; exact (run_part h3).1 ha, ?_, rfl⟩
        simp only [RepD]
        exact ⟨_, rfl, by rw [toList_extract']; exact extract_rep hr⟩
      · simp at h
    · rename_i ha
      obtain ⟨v, e1, e2⟩ := hr.get h
      refine ⟨v, by rw [hrun vs hv]; exact (run_part h3).2 (by simpa using ha) v (by simpa using e1), e2, ?_⟩
      -- a cell of a copy
      have : ∃ ds0, opdD st.r x = .agg ds0 ∧ ds = ds0.map down1 := by
        cases ho : opdD st.r x <;> rw [ho] at e <;> simp only [downD, reduceCtorEq, D.agg.injEq] at e
        exact ⟨_, rfl, e.symm⟩
      obtain ⟨ds0, _, rfl⟩ := this
      exact RepD_get_loose h
  · rw [e] at hrd
    simp only [RepD, RepP] at hrd
    obtain ⟨vs, hv, hr⟩ := hrd
    split at h
    · rename_i ha
      split at h
      · simp only [Option.some.injEq] at h; subst h
        refine ⟨_, by rw [hrun vs hv]; exact (run_part h3).1 ha, ?_, rfl⟩
        simp only [RepD, RepP]
        exact ⟨_, rfl, by rw [toList_extract']; exact extract_repP hr⟩
      · simp at h
    · rename_i ha
      rw [Option.map_eq_some_iff] at h
      obtain ⟨q, hq, rfl⟩ := h
      obtain ⟨v, e1, e2⟩ := hr.get hq
      exact ⟨v, by rw [hrun vs hv]; exact (run_part h3).2 (by simpa using ha) v (by simpa using e1), by simp only [RepD]; exact e2, rfl⟩

theorem run_eqlNil {t e : TypeId} (hu : T.underlying t = some (.slice e)) {b : Addr} {n cap : Nat} (x y : Operand) :
    (do eqGuard .eql t x y (.slice (some b) n cap) (.slice none 0 0); binOp .eql t (.slice (some b) n cap) (.slice none 0 0)).run T w = .ok (.bool false) w ∧
    (do eqGuard .neq t x y (.slice (some b) n cap) (.slice none 0 0); binOp .neq t (.slice (some b) n cap) (.slice none 0 0)).run T w = .ok (.bool true) w := by
  have hq : ∀ w, (Op.equal t (.slice (some b) n cap) (.slice none 0 0)).run T w = .ok false w := by
    intro w
    unfold Op.equal
    rw [show Op.maxDepth = 9999 + 1 from rfl, Op.equalIn]
    simp [run_underlying hu, Result.andThen]
  constructor
  · simp [eqGuard, binOp, hq, Result.andThen]
  · simp [eqGuard, binOp, hq, Result.andThen]

theorem slOf_rep {d : D} {w0 : Nat} {rows : List (List P)} {v : Value} (h : slOf d = some (w0, rows)) (r : RepD C d v) : RepP C.Φ (.sl w0 rows) v := by
  unfold slOf at h
  split at h
  · simp only [Option.some.injEq, Prod.mk.injEq] at h; obtain ⟨rfl, rfl⟩ := h; simpa only [RepD] using r
  · simp only [Option.some.injEq, Prod.mk.injEq] at h; obtain ⟨rfl, rfl⟩ := h; simpa only [RepD] using r
  · simp at h
theorem isNilSl_rep {d : D} {v : Value} (h : isNilSl d = true) (r : RepD C d v) : v = .slice none 0 0 := by
  unfold isNilSl at h
  split at h
  · simp only [RepD, RepP] at r; exact r.1
  · simp at h
theorem elemT_spec {t e : TypeId} (h : elemT T t = some e) : T.underlying t = some (.slice e) := by
  unfold elemT at h
  split at h
  · rename_i x hx
    split at h
    · simp only [Option.some.injEq] at h; rw [hx, h]
    · simp at h
  · simp at h
theorem elemT_info {t e : TypeId} (h : elemT T t = some e) : ∃ i, T.info? e = some i := by
  unfold elemT at h
  split at h
  · rename_i x hx
    split at h
    · rename_i hi; simp only [Option.some.injEq] at h; subst h; exact Option.isSome_iff_exists.1 hi
    · simp at h
  · simp at h
theorem intOf_rep {d : D} {n : Int} {v : Value} (h : intOf? d = some n) (r : RepD C d v) : ∃ k, v = .int k n := by
  unfold intOf? at h
  split at h
  · simp only [Option.some.injEq] at h; subst h; simp only [RepD, RepP] at r; exact ⟨_, r.1⟩
  · simp at h

theorem foldl_set (off : Nat) : ∀ (l : List Value) (k : Nat) (cs : Array Value), off + k + l.length ≤ cs.size →
    ((l.zipIdx k).foldl (fun cs (x : Value × Nat) => cs.setIfInBounds (off + x.2) x.1) cs).size = cs.size ∧
    ∀ j, ((l.zipIdx k).foldl (fun cs (x : Value × Nat) => cs.setIfInBounds (off + x.2) x.1) cs)[j]? = if off + k ≤ j ∧ j < off + k + l.length then l[j - (off + k)]? else cs[j]?
  | [], k, cs, _ => by
    refine ⟨by simp, fun j => ?_⟩
    simp only [List.zipIdx_nil, List.foldl_nil, List.length_nil]
    rw [if_neg (by omega)]
  | v :: l, k, cs, h => by
    simp only [List.length_cons] at h
    obtain ⟨h1, h2⟩ := foldl_set off l (k + 1) (cs.setIfInBounds (off + k) v) (by simp; omega)
    simp only [List.zipIdx_cons, List.foldl_cons]
    refine ⟨by rw [h1]; simp, fun j => ?_⟩
    rw [h2 j, Array.getElem?_setIfInBounds]
    simp only [List.length_cons]
    by_cases e : off + k = j
    · subst e
      rw [if_neg (by omega), if_pos rfl, if_pos (by omega), if_pos (by omega)]
      simp
    · by_cases e2 : off + (k + 1) ≤ j ∧ j < off + (k + 1) + l.length
      · rw [if_pos e2, if_pos (by omega)]
        obtain ⟨m, hm⟩ : ∃ m, j - (off + k) = m + 1 := ⟨j - (off + k) - 1, by omega⟩
        rw [hm, show j - (off + (k + 1)) = m by omega]; simp
      · rw [if_neg e2, if_neg e, if_neg (by omega)]

/-- filling in parts -/
theorem fill_ok {place : Nat → Option (Nat × Nat)} : ∀ {z : List D} {parts : List (Nat × D)} {res : List D} {zv : Array Value} {pv : List (Nat × Value)},
    fillD place z parts = some res → RepDs C z zv.toList → (∀ u ∈ zv.toList, isCell u = true) → parts.length = pv.length →
    (∀ i q r, getL parts i = some q → pv[i]? = some r → q.1 = r.1 ∧ RepD C q.2 r.2) →
    ∃ cells : Array Value, Instr.fill place zv pv = some cells ∧ RepDs C res cells.toList ∧ (∀ u ∈ cells.toList, isCell u = true) ∧ cells.size = zv.size
  | z, [], res, zv, [], h, hr, hc, _, _ => by
    simp only [fillD, Option.some.injEq] at h; subst h
    exact ⟨zv, by simp [Instr.fill], hr, hc, rfl⟩
  | z, (i, d) :: ps, res, zv, (j, v) :: pv, h, hr, hc, hl, hp => by
    obtain ⟨e0, hd⟩ := hp 0 (i, d) (j, v) (by simp [getL]) (by simp)
    simp only [] at e0 hd
    subst e0
    simp only [fillD] at h
    split at h
    · rename_i off n hpl
      split at h
      · rename_i hok
        obtain ⟨r1, r2⟩ := okCells_rep hok.1 hd
        have hlen := cells_length r1
        have hzl := hr.length
        simp only [Array.length_toList] at hzl
        have hfit : off + v.cells.size ≤ zv.size := by omega
        obtain ⟨f1, f2⟩ := foldl_set off v.cells.toList 0 zv (by simpa using hfit)
        have hF : (v.cells.zipIdx.foldl (fun cs (x : Value × Nat) => cs.setIfInBounds (off + x.2) x.1) zv) = ((v.cells.toList.zipIdx 0).foldl (fun cs (x : Value × Nat) => cs.setIfInBounds (off + x.2) x.1) zv) := by
          rw [← Array.foldl_toList, Array.toList_zipIdx]
        generalize hG : ((v.cells.toList.zipIdx 0).foldl (fun cs (x : Value × Nat) => cs.setIfInBounds (off + x.2) x.1) zv) = G at f1 f2 hF
        have hGr : RepDs C (setN z off d.cells) G.toList := by
          refine RepDs.mk (by simp [length_setN, hzl, f1]) fun jj x u hx hu => ?_
          rw [getL_setN _ _ _ _ (by omega)] at hx
          simp only [Array.getElem?_toList, f2 jj, Nat.add_zero, Array.length_toList] at hu
          by_cases hj : off ≤ jj ∧ jj < off + d.cells.length
          · rw [if_pos hj] at hx
            rw [if_pos (by omega)] at hu
            obtain ⟨u', e1, e2⟩ := r1.get hx
            rw [Array.getElem?_toList, hu, Option.some.injEq] at e1; subst e1; exact e2
          · rw [if_neg hj] at hx
            rw [if_neg (by omega)] at hu
            obtain ⟨u', e1, e2⟩ := hr.get hx
            rw [Array.getElem?_toList, hu, Option.some.injEq] at e1; subst e1; exact e2
        have hGc : ∀ u ∈ G.toList, isCell u = true := by
          intro u hu
          obtain ⟨jj, hjj⟩ := List.getElem?_of_mem hu
          simp only [Array.getElem?_toList, f2 jj, Nat.add_zero, Array.length_toList] at hjj
          split at hjj
          · exact r2 u (by rw [Array.mem_toList_iff]; exact Array.mem_of_getElem? hjj)
          · exact hc u (by rw [Array.mem_toList_iff]; exact Array.mem_of_getElem? hjj)
        obtain ⟨cells, c1, c2, c3, c4⟩ := fill_ok h hGr hGc (by simpa using hl) (fun i' q r h1 h2 => hp (i' + 1) q r (by simpa [getL] using h1) (by simpa using h2))
        refine ⟨cells, ?_, c2, c3, by rw [c4, f1]⟩
        simp only [Instr.fill, hpl]
        rw [if_neg (by
          simp only [ne_eq, Bool.or_eq_true, decide_eq_true_eq, not_or, Decidable.not_not]
          omega)]
        have : (v.cells.zipIdx.foldl (fun cs (c, j) => cs.setIfInBounds (off + j) c) zv) = G := hF
        rw [this]; exact c1
      · simp at h
    · simp at h
  | _, [], _, _, _ :: _, _, _, _, hl, _ => by simp at hl
  | _, _ :: _, _, _, [], _, _, _, hl, _ => by simp at hl

theorem lenOf_rep {d : D} {n : Nat} {v : Value} (h : lenOf d = some n) (r : RepD C d v) : ∃ b o cap, v = .slice (some ⟨b, o, none⟩) n cap ∧ n ≤ cap := by
  cases d with
  | p x =>
    cases x with
    | sl w rows =>
      simp only [lenOf, Option.some.injEq] at h; subst h
      simp only [RepD, RepP] at r
      obtain ⟨b, o, cap, h1, h2, _⟩ := r
      exact ⟨b, o, cap, h1, h2⟩
    | _ => simp [lenOf] at h
  | own w rows =>
    simp only [lenOf, Option.some.injEq] at h; subst h
    simp only [RepD, RepP] at r
    obtain ⟨b, o, cap, h1, h2, _⟩ := r
    exact ⟨b, o, cap, h1, h2⟩
  | ms w id lo m =>
    simp only [lenOf, Option.some.injEq] at h; subst h
    simp only [RepD] at r
    obtain ⟨_, cap, h1, h2⟩ := r
    exact ⟨_, _, cap, h1, h2⟩
  | _ => simp [lenOf] at h
end
end Go.AE
end

section
namespace Go.AE
set_option linter.unusedSimpArgs false
set_option linter.unusedVariables false
open Go
section
variable {T : Program} {B : Base} {C : Ctx} {st : St} {a : Act} {w w' : World} {o : Oper}

theorem RepDs_ofP {ps : List P} {vs : List Value} (h : RepPs C.Φ ps vs) : RepDs C (ps.map .p) vs := h.toD

theorem structOp_ok {ex : List (D × Value)} (R : Rel B C st a w ex) {d : D} (h : structOp T st.r o = some d) :
    ∃ v, (execOp a.eval o).run T w = .ok (.value v) w ∧ RepD C d v ∧ loose d = true := by
  unfold structOp at h
  split at h
  · -- fieldAddr
    rename_i s x f hop
    have hex : execOp a.eval o = (do pure (.value (← Instr.fieldAt s (a.eval x) f))) := by unfold execOp; rw [hop]
    have hx := R.opd x
    split at h
    · rename_i off t s' o' hf ho
      split at h
      · simp at h
      · rename_i hz
        simp only [Option.some.injEq] at h; subst h
        rw [ho] at hx; simp only [RepD] at hx
        refine ⟨.pointer (some ⟨C.β (.box s'), o' + off, none⟩), by rw [hex, hx.2]; simp [run_fieldAt hf hz, Result.andThen], ?_, rfl⟩
        simp only [RepD]; exact ⟨hx.1, trivial⟩
    · rename_i off t s' o' hf ho
      split at h
      · simp at h
      · rename_i hz
        simp only [Option.some.injEq] at h; subst h
        rw [ho] at hx; simp only [RepD] at hx
        refine ⟨.pointer (some ⟨C.β (.blk s'), o' + off, none⟩), by rw [hex, hx.2]; simp [run_fieldAt hf hz, Result.andThen], ?_, rfl⟩
        simp only [RepD]; exact ⟨hx.1, trivial⟩
    · rename_i off t wd rows i o' hf ho
      split at h
      · simp at h
      · rename_i hz
        simp only [Option.some.injEq] at h; subst h
        rw [ho] at hx; simp only [RepD, RepP] at hx
        obtain ⟨b, o2, hx1, hx2⟩ := hx
        refine ⟨.pointer (some ⟨b, o2 + i * wd + o' + off, none⟩), by rw [hex, hx1]; simp [run_fieldAt hf hz, Result.andThen], ?_, rfl⟩
        simp only [RepD, RepP]; exact ⟨b, o2, by rw [Nat.add_assoc], hx2⟩
    · simp at h
  · -- field
    rename_i s x f hop
    have hex : execOp a.eval o = (do pure (.value (← Instr.field s (a.eval x) f))) := by unfold execOp; rw [hop]
    split at h
    · rename_i off t ds hf ho
      obtain ⟨v, h1, h2, h3⟩ := field_ok (T := T) R hf (.inl ⟨ds, ho, h⟩)
      exact ⟨v, by rw [hex]; simp [h1, Result.andThen], h2, h3⟩
    · rename_i off t ps hf ho
      obtain ⟨v, h1, h2, h3⟩ := field_ok (T := T) R hf (.inr ⟨ps, ho, h⟩)
      exact ⟨v, by rw [hex]; simp [h1, Result.andThen], h2, h3⟩
    · simp at h
  · -- build
    rename_i t parts hop
    have hex : execOp a.eval o = (do pure (.value (← Instr.build t (parts.map fun (i, x) => (i, a.eval x))))) := by unfold execOp; rw [hop]
    split at h
    · rename_i fs z hu hz
      split at h
      case isFalse => simp at h
      rename_i hall
      rw [Option.map_eq_some_iff] at h
      obtain ⟨res, hfill, rfl⟩ := h
      obtain ⟨v, hv, hp, rfl, hnt⟩ := zeroT_spec hz
      obtain ⟨c1, c2⟩ := ofVal_cells hp hnt C.Φ
      have hpl : ∀ (l : List Field), l.all (fun f => (T.info? f.type).isSome) = true → ∀ w, (l.mapM fun f => Prod.mk f.offset <$> sizeOf f.type).run T w = .ok (l.map fun f => (f.offset, sizeT T f.type)) w := by
        intro l
        induction l with
        | nil => intro _ w; rfl
        | cons f l ih =>
          intro hl w
          simp only [List.all_cons, Bool.and_eq_true] at hl
          obtain ⟨i, hi⟩ := Option.isSome_iff_exists.1 hl.1
          simp [List.mapM_cons, run_sizeT hi, ih hl.2, Result.andThen]
      obtain ⟨cells, f1, f2, f3, _⟩ := fill_ok (C := C) (pv := parts.toList.map fun (i, x) => (i, a.eval x)) hfill c1.toD c2 (by simp) (fun i q r h1 h2 => by
        rw [getL_map, getL_eq, Option.map_eq_some_iff] at h1
        obtain ⟨y, hy, rfl⟩ := h1
        rw [List.getElem?_map, hy] at h2
        simp only [Option.map_some, Option.some.injEq] at h2
        subst h2
        exact ⟨rfl, (R.opd y.2).down⟩)
      refine ⟨.agg cells, ?_, by simp only [RepD]; exact ⟨cells, rfl, f2⟩, rfl⟩
      rw [hex]
      have hb : (Instr.build t (parts.map fun (i, x) => (i, a.eval x))).run T w = .ok (.agg cells) w := by
        have f1' : Instr.fill (fun (x : Nat) => Option.map (fun f : Field => (f.offset, sizeT T f.type)) fs[x]?) v.cells (List.map (fun x => (x.fst, a.eval x.snd)) parts.toList) = some cells := f1
        simp [Instr.build, run_underlying hu, hv, Array.mapM_eq_mapM_toList, hpl fs.toList hall, f1', Result.andThen]
      simp [hb, Result.andThen]
    · simp at h
  · -- extract
    rename_i x i hop
    have hex : execOp a.eval o = (do pure (.value (← Instr.extract (a.eval x) i))) := by unfold execOp; rw [hop]
    have hx := (R.opd x).down
    split at h
    · rename_i ds ho
      rw [ho] at hx; simp only [RepD] at hx
      obtain ⟨vs, hv, hr⟩ := hx
      obtain ⟨v, e1, e2⟩ := hr.get h
      refine ⟨v, ?_, e2, ?_⟩
      · rw [hex, hv]
        simp only [Array.getElem?_toList] at e1
        simp [Instr.extract, e1, Result.andThen]
      · have : ∃ ds0 : List D, ds = ds0.map down1 := by
          cases hq : opdD st.r x <;> rw [hq] at ho <;> simp only [downD, reduceCtorEq, D.tup.injEq] at ho
          exact ⟨_, ho.symm⟩
        obtain ⟨ds0, rfl⟩ := this
        exact RepD_get_loose h
    · rename_i ps ho
      rw [Option.map_eq_some_iff] at h
      obtain ⟨q, hq, rfl⟩ := h
      rw [ho] at hx; simp only [RepD, RepP] at hx
      obtain ⟨vs, hv, hr⟩ := hx
      obtain ⟨v, e1, e2⟩ := hr.get hq
      refine ⟨v, ?_, by simp only [RepD]; exact e2, rfl⟩
      rw [hex, hv]
      simp only [Array.getElem?_toList] at e1
      simp [Instr.extract, e1, Result.andThen]
    · simp at h
  · -- nilCheck
    rename_i x hop
    have hx := R.opd x
    split at h
    · rename_i s o' ho
      simp only [Option.some.injEq] at h; subst h
      rw [ho] at hx
      refine ⟨a.eval x, ?_, hx, rfl⟩
      simp only [RepD] at hx
      unfold execOp; rw [hop]; simp [hx.2]
    · rename_i s o' ho
      simp only [Option.some.injEq] at h; subst h
      rw [ho] at hx
      refine ⟨a.eval x, ?_, hx, rfl⟩
      simp only [RepD] at hx
      unfold execOp; rw [hop]; simp [hx.2]
    · rename_i wd rows i o' ho
      simp only [Option.some.injEq] at h; subst h
      rw [ho] at hx
      refine ⟨a.eval x, ?_, hx, rfl⟩
      simp only [RepD, RepP] at hx
      obtain ⟨b, o2, hx1, _⟩ := hx
      unfold execOp; rw [hop]; simp [hx1]
    · simp at h
  · -- == nil
    rename_i t x y yt hop
    split at h
    · rename_i e q he hs hn
      simp only [Option.some.injEq] at h; subst h
      obtain ⟨b, o', cap, h1, _⟩ := lenOf_rep hs (R.opd x)
      have h2 := isNilSl_rep hn (R.opd y)
      refine ⟨.bool false, ?_, by simp [RepD, RepP, plain], rfl⟩
      have := (run_eqlNil (T := T) (w := w) (elemT_spec he) (b := ⟨b, o', none⟩) (n := q) (cap := cap) x y).1
      unfold execOp; rw [hop]
      simp only [h1, h2]
      rw [Sem.run_bind, this]; rfl
    · simp at h
  · rename_i t x y yt hop
    split at h
    · rename_i e q he hs hn
      simp only [Option.some.injEq] at h; subst h
      obtain ⟨b, o', cap, h1, _⟩ := lenOf_rep hs (R.opd x)
      have h2 := isNilSl_rep hn (R.opd y)
      refine ⟨.bool true, ?_, by simp [RepD, RepP, plain], rfl⟩
      have := (run_eqlNil (T := T) (w := w) (elemT_spec he) (b := ⟨b, o', none⟩) (n := q) (cap := cap) x y).2
      unfold execOp; rw [hop]
      simp only [h1, h2]
      rw [Sem.run_bind, this]; rfl
    · simp at h
  · -- len
    rename_i args argTypes hop
    split at h
    · rename_i x t hx0 ht0
      split at h
      · rename_i e n he hs
        simp only [Option.some.injEq] at h; subst h
        obtain ⟨b, o', cap, h1, _⟩ := lenOf_rep hs (R.opd x)
        refine ⟨.int .i64 n, ?_, by simp [RepD, RepP, plain], rfl⟩
        unfold execOp; rw [hop]
        simp [resolve, invoke, builtin, Builtin.len_, ht0, hx0, run_underlying (elemT_spec he), h1, Result.andThen, goInt]
      · simp at h
    · simp at h
  · simp at h
end
end Go.AE
end

section
namespace Go.AE
open Go
set_option linter.unusedSimpArgs false
set_option linter.unusedVariables false
set_option linter.unnecessarySimpa false
section
variable {T : Program} {B : Base} {C : Ctx} {st : St} {a : Act} {w w' : World} {o : Oper}

def Ctx.withΦ (C : Ctx) (Φ : Nat → Nat → Option Value) : Ctx := { C with Φ := Φ }
theorem CLe.ofΦ {C : Ctx} {Φ : Nat → Nat → Option Value} (h : Le C.Φ Φ) : CLe (fun _ => True) C (C.withΦ Φ) :=
  ⟨h, Nat.le_refl _, fun _ _ => rfl, fun _ _ h => ⟨h, rfl⟩⟩

/-- memory grows by what nobody had -/
theorem Rel.world {ex : List (D × Value)} (R : Rel B C st a w ex) {Φ' : Nat → Nat → Option Value} (hold : ∀ b, b < w.heap.size → w'.heap[b]? = w.heap[b]?)
    (hsz : w.heap.size ≤ w'.heap.size) (hos : w'.os = w.os) (htape : w'.tape = w.tape) (hout : w'.output = w.output)
    (hle : Le C.Φ Φ') (hΦ : ∀ b, b < w.heap.size → ∀ o, Φ' b o = C.Φ b o) (hsub : SubΦ Φ' w') : Rel B (C.withΦ Φ') st a w' ex := by
  have hcle := CLe.ofΦ hle
  have old : ∀ {b o v}, w.cell? ⟨b, o, none⟩ = some v → w'.cell? ⟨b, o, none⟩ = some v ∧ w'.frozen? ⟨b, o, none⟩ = w.frozen? ⟨b, o, none⟩ := by
    intro b o v h
    have := hold b (cell?_lt h)
    exact ⟨by rw [cell?_of_heap this]; exact h, frozen?_of_heap this⟩
  have hat : ∀ p, atPos (C.withΦ Φ') st a.tmps w' ex p = atPos C st a.tmps w ex p := by
    intro p
    cases p with
    | reg i => rfl
    | ex j => rfl
    | blk k => rfl
    | cell k j =>
      simp only [atPos, Ctx.withΦ]
      cases hcs : cellsOf st k with
      | none => rfl
      | some ds =>
        rw [cell?_of_heap (hold _ (R.β_lt (liveK_of_cells hcs)))]
  have hxb : ∀ p, xb (C.withΦ Φ') st a.tmps w' ex p = xb C st a.tmps w ex p := by
    intro p
    cases p with
    | blk k => rfl
    | reg i => simp only [xb, hat]
    | ex j => simp only [xb, hat]
    | cell k j => simp only [xb, hat]
  refine { len := R.len, regs := fun i d v h1 h2 => RepD.mono hcle d v (lpD_all (fun _ => trivial) d) (R.regs i d v h1 h2),
           exs := fun i q h => RepD.mono hcle _ _ (lpD_all (fun _ => trivial) _) (R.exs i q h), cells := ?_, seals := fun s ps h => RepCells.mono hle _ _ _ (R.seals s ps h), frzs := fun id ps h => RepCells.mono hle _ _ _ (R.frzs id ps h),
           nh := R.nh, hb := R.hb, tails := ?_, inj := fun p q n h1 h2 => R.inj p q n (by rw [← hxb]; exact h1) (by rw [← hxb]; exact h2), bound := ?_, empty := ?_, sub := hsub, frm := ?_,
           defs := R.defs, defr := fun i q d h1 h2 => (R.defr i q d h1 h2).mono hcle, maps := ?_, al := R.al }
  · intro k ds j d h1 h2
    obtain ⟨h3, v, h4, h5, h6, h7⟩ := R.cells k ds j d h1 h2
    obtain ⟨h8, h9⟩ := old h4
    exact ⟨h3, v, h8, h5, RepD.mono hcle d v (lpD_all (fun _ => trivial) d) h6, by rw [show (C.withΦ Φ').β k = C.β k from rfl, h9]; exact h7⟩
  · intro p d v h
    rw [hat] at h
    have ht := R.tails p d v h
    unfold TailOK at ht ⊢
    split
    · rename_i wd rows ad n cap
      simp only [] at ht
      intro hn
      obtain ⟨h1, h2⟩ := ht hn
      have hb : ad.block < w.heap.size := by
        have hx : xb C st a.tmps w ex p = some ad.block := by
          cases p with
          | blk k => simp [atPos] at h
          | reg i => simp [xb, h, tailBlk, hn]
          | ex i => simp [xb, h, tailBlk, hn]
          | cell k i => simp [xb, h, tailBlk, hn]
        exact (R.bound p _ hx).1
      refine ⟨fun o ho => by show Φ' _ _ = _; rw [hΦ _ hb]; exact h1 o ho, fun o ho1 ho2 => ?_⟩
      rw [cell?_of_heap (hold _ hb), frozen?_of_heap (hold _ hb)]
      exact h2 o ho1 ho2
    · trivial
  · intro p n h
    rw [hxb] at h
    have := R.bound p n h
    exact ⟨by omega, this.2⟩
  · intro k h o'
    have := R.empty k h o'
    show Φ' (C.β k) o' = _
    rw [hΦ _ (R.β_lt h)]; exact this
  · refine ⟨hos.trans R.frm.os, htape.trans R.frm.tape, hout.trans R.frm.output, Nat.le_trans R.frm.size hsz, fun b hb hX => ?_, fun b hb hX o' => ?_, R.frm.Φle.trans hle⟩
    · rw [hold b (Nat.lt_of_lt_of_le hb R.frm.size)]; exact R.frm.block b hb hX
    · show Φ' _ _ = _
      rw [hΦ b (Nat.lt_of_lt_of_le hb R.frm.size)]; exact R.frm.Φblock b hb hX o'
  · intro id es clock h
    obtain ⟨ms, h1, h2⟩ := R.maps id es clock h
    exact ⟨ms, by rw [← h1]; exact hold _ (Array.getElem?_eq_some_iff.1 h1).1, h2.mono hcle⟩

/-- one more, whose tail is nobody else's -/
theorem Rel.pushOwn {ex : List (D × Value)} (R : Rel B C st a w ex) {d : D} {v : Value} (hr : RepD C d v) (ht : TailOK C w d v)
    (hx : ∀ n, tailBlk d v = some n → (∀ p, xb C st a.tmps w ex p ≠ some n) ∧ n < w.heap.size ∧ (B.w.heap.size ≤ n ∨ B.X n)) : Rel B C st a w ((d, v) :: ex) := by
  have hat : ∀ p, atPos C st a.tmps w ((d, v) :: ex) p = (match p with | .ex 0 => some (d, v) | .ex (j + 1) => atPos C st a.tmps w ex (.ex j) | p => atPos C st a.tmps w ex p) := by
    intro p
    cases p with
    | ex j => cases j <;> rfl
    | _ => rfl
  have hxb : ∀ p, xb C st a.tmps w ((d, v) :: ex) p = (match p with | .ex 0 => tailBlk d v | .ex (j + 1) => xb C st a.tmps w ex (.ex j) | p => xb C st a.tmps w ex p) := by
    intro p
    cases p with
    | ex j => cases j <;> rfl
    | _ => rfl
  refine { R with exs := ?_, tails := ?_, inj := ?_, bound := ?_ }
  · intro i q h
    cases i with
    | zero => simp only [getL, Option.some.injEq] at h; subst h; exact hr
    | succ i => exact R.exs i q (by simpa [getL] using h)
  · intro p d' v' h
    rw [hat] at h
    split at h
    · simp only [Option.some.injEq, Prod.mk.injEq] at h; obtain ⟨rfl, rfl⟩ := h; exact ht
    · exact R.tails _ _ _ h
    · exact R.tails _ _ _ h
  · intro p q n h1 h2
    rw [hxb] at h1 h2
    have key : ∀ p, (match p with | Pos.ex 0 => tailBlk d v | .ex (j + 1) => xb C st a.tmps w ex (.ex j) | p => xb C st a.tmps w ex p) = some n →
        (p = .ex 0 ∧ tailBlk d v = some n) ∨ (∃ p', p' = (match p with | .ex (j + 1) => Pos.ex j | p => p) ∧ p ≠ .ex 0 ∧ xb C st a.tmps w ex p' = some n) := by
      intro p h
      cases p with
      | ex j => cases j with
        | zero => exact .inl ⟨rfl, h⟩
        | succ j => exact .inr ⟨.ex j, rfl, by simp, h⟩
      | reg i => exact .inr ⟨.reg i, rfl, by simp, h⟩
      | cell k j => exact .inr ⟨.cell k j, rfl, by simp, h⟩
      | blk k => exact .inr ⟨.blk k, rfl, by simp, h⟩
    rcases key p h1 with ⟨rfl, e1⟩ | ⟨p', hp', np, e1⟩
    · rcases key q h2 with ⟨rfl, e2⟩ | ⟨q', hq', nq, e2⟩
      · rfl
      · exact absurd e2 ((hx n e1).1 q')
    · rcases key q h2 with ⟨rfl, e2⟩ | ⟨q', hq', nq, e2⟩
      · exact absurd e1 ((hx n e2).1 p')
      · have e := R.inj p' q' n e1 e2
        subst hp' hq'
        cases p with
        | ex i =>
          cases i with
          | zero => exact absurd rfl np
          | succ i =>
            cases q with
            | ex j =>
              cases j with
              | zero => exact absurd rfl nq
              | succ j => simpa using e
            | _ => simp at e
        | reg i => cases q with
          | ex j => cases j with
            | zero => exact absurd rfl nq
            | succ j => simp at e
          | _ => simpa using e
        | cell k i => cases q with
          | ex j => cases j with
            | zero => exact absurd rfl nq
            | succ j => simp at e
          | _ => simpa using e
        | blk k => cases q with
          | ex j => cases j with
            | zero => exact absurd rfl nq
            | succ j => simp at e
          | _ => simpa using e
  · intro p n h
    rw [hxb] at h
    split at h
    · exact (hx n h).2
    · exact R.bound _ n h
    · exact R.bound _ n h

/-- a new row of cells: its first ones are data from now on, the others are for whoever appends -/
theorem Rel.newOwn {ex : List (D × Value)} (R : Rel B C st a w ex) {wd cap : Nat} {rows : List (List P)} {vs : List Value}
    (hold : ∀ b, b < w.heap.size → w'.heap[b]? = w.heap[b]?) (hsz : w'.heap.size = w.heap.size + 1) (hos : w'.os = w.os) (htape : w'.tape = w.tape) (hout : w'.output = w.output)
    (hlen : vs.length = rows.length * wd) (hcell : ∀ v ∈ vs, isCell v = true) (hvs : ∀ j v, vs[j]? = some v → w'.cell? ⟨w.heap.size, j, none⟩ = some v)
    (hcap : rows.length ≤ cap) (htail : ∀ o, rows.length * wd ≤ o → o < cap * wd → (w'.cell? ⟨w.heap.size, o, none⟩).isSome = true ∧ w'.frozen? ⟨w.heap.size, o, none⟩ = false)
    (hrows : ∀ i row, getL rows i = some row → row.length = wd ∧ ∀ j p, getL row j = some p → ∃ v, vs[i * wd + j]? = some v ∧ RepP C.Φ p v) :
    ∃ C', CLe (fun _ => True) C C' ∧ Rel B C' st a w' ((.own wd rows, .slice (some ⟨w.heap.size, 0, none⟩) rows.length cap) :: ex) := by
  have hnew : ∀ o, C.Φ w.heap.size o = none := by
    intro o
    cases e : C.Φ w.heap.size o with
    | none => rfl
    | some v => have := cell?_lt (R.sub _ _ _ e); omega
  let Φ' : Nat → Nat → Option Value := fun b o => if b = w.heap.size then vs[o]? else C.Φ b o
  have hle : Le C.Φ Φ' := by
    intro b o v h
    show (if b = w.heap.size then vs[o]? else C.Φ b o) = some v
    rw [if_neg]
    · exact h
    · rintro rfl; rw [hnew] at h; cases h
  have hsub : SubΦ Φ' w' := by
    intro b o v h
    simp only [Φ'] at h
    split at h
    · rename_i e; subst e; exact hvs o v h
    · have h' := R.sub b o v h
      rw [cell?_of_heap (hold b (cell?_lt h'))]; exact h'
  have R' := R.world (Φ' := Φ') hold (by omega) hos htape hout hle (fun b hb o => by simp only [Φ']; rw [if_neg (by omega)]) hsub
  refine ⟨C.withΦ Φ', CLe.ofΦ hle, R'.pushOwn ?_ ?_ ?_⟩
  · simp only [RepD, RepP]
    refine ⟨w.heap.size, 0, cap, rfl, hcap, RepRows.mk fun i row hi => ?_⟩
    obtain ⟨h1, h2⟩ := hrows i row hi
    refine ⟨h1, RepCells.mk fun j p hp => ?_⟩
    obtain ⟨v, h3, h4⟩ := h2 j p hp
    refine ⟨v, ?_, hcell v (List.mem_of_getElem? h3), RepP.mono hle p v h4⟩
    show (if w.heap.size = w.heap.size then vs[0 + i * wd + j]? else _) = some v
    rw [if_pos rfl, Nat.zero_add]; exact h3
  · intro hn
    refine ⟨fun o ho => ?_, fun o ho1 ho2 => htail o (by simpa using ho1) (by simpa using ho2)⟩
    show (if w.heap.size = w.heap.size then vs[o]? else _) = none
    rw [if_pos rfl, List.getElem?_eq_none]
    rw [hlen]; simpa using ho
  · intro n hn
    simp only [tailBlk] at hn
    split at hn
    · simp only [Option.some.injEq] at hn
      subst hn
      refine ⟨fun p hp => ?_, by omega, .inl R.frm.size⟩
      have : xb C st a.tmps w ex p = some w.heap.size := by
        cases p with
        | blk k => exact hp
        | reg i => exact hp
        | ex i => exact hp
        | cell k j =>
          simp only [xb, atPos, Ctx.withΦ] at hp ⊢
          cases hcs : cellsOf st k with
          | none => simp [hcs, both] at hp
          | some ds =>
            rw [hcs, cell?_of_heap (hold _ (R.β_lt (liveK_of_cells hcs)))] at hp
            exact hp
      have := (R.bound p _ this).1
      omega
    · simp at hn

/-- a row grows in place: its tail's first cells are data from now on -/
theorem Rel.growOwn {ex : List (D × Value)} {wd n cap k : Nat} {xs ys : List (List P)} {ad : Addr} {vs : List Value}
    (R : Rel B C st a w ((.own wd xs, .slice (some ad) n cap) :: ex)) (hn : n < cap) (hk : ys.length = k) (hfit : n + k ≤ cap) (hlen : vs.length = k * wd)
    (hcell : ∀ v ∈ vs, isCell v = true)
    (hrows : ∀ i row, getL ys i = some row → row.length = wd ∧ ∀ j p, getL row j = some p → ∃ v, vs[i * wd + j]? = some v ∧ RepP C.Φ p v) :
    ∃ C', CLe (fun _ => True) C C' ∧ Rel B C' st a (w.setCells ad.block (ad.off + n * wd) vs) ((.own wd (xs ++ ys), .slice (some ad) (n + k) cap) :: ex) := by
  have R0 := R.drop
  have hrd : RepD C (.own wd xs) (.slice (some ad) n cap) := R.exs 0 (.own wd xs, .slice (some ad) n cap) rfl
  simp only [RepD, RepP] at hrd
  obtain ⟨b, of, cap', e, hle0, hxs⟩ := hrd
  simp only [Value.slice.injEq, Option.some.injEq] at e
  obtain ⟨rfl, hnl, rfl⟩ := e
  simp only [] at *
  obtain ⟨t1, t2⟩ := R.tails (.ex 0) (.own wd xs) (.slice (some ⟨b, of, none⟩) n cap) (by simp [atPos, getL]) hn
  simp only [] at t1 t2
  have hx0 : xb C st a.tmps w ((.own wd xs, .slice (some ⟨b, of, none⟩) n cap) :: ex) (.ex 0) = some b := by simp [xb, atPos, getL, tailBlk, hn]
  have hcw : (n + k) * wd ≤ cap * wd := Nat.mul_le_mul_right _ hfit
  rw [Nat.add_mul] at hcw
  have hb := R.bound _ _ hx0
  -- whoever else has a block has another one
  have hne : ∀ p m, xb C st a.tmps w ex p = some m → m ≠ b := by
    intro p m h e
    subst e
    have : xb C st a.tmps w ((.own wd xs, .slice (some ⟨m, of, none⟩) n cap) :: ex) (match p with | .ex j => .ex (j + 1) | p => p) = some m := by
      cases p with
      | ex j => simpa [xb, atPos, getL] using h
      | _ => exact h
    have := R.inj _ _ _ hx0 this
    cases p <;> simp at this
  have hin : ∀ i (hi : i < vs.length), (w.setCells b (of + n * wd) vs).cell? ⟨b, of + n * wd + i, none⟩ = some vs[i] :=
    World.cell?_setCells_in b vs (of + n * wd) w fun j hj => (t2 (of + n * wd + j) (by omega) (by omega)).1
  have hout : ∀ b' o, (b' = b → o < of + n * wd ∨ of + n * wd + vs.length ≤ o) → (w.setCells b (of + n * wd) vs).cell? ⟨b', o, none⟩ = w.cell? ⟨b', o, none⟩ :=
    fun b' o h => World.cell?_setCells_out b vs (of + n * wd) w ⟨b', o, none⟩ fun h1 _ => h h1
  have hfz : ∀ x, (w.setCells b (of + n * wd) vs).frozen? x = w.frozen? x := World.frozen?_setCells b vs (of + n * wd) w
  let Φ' : Nat → Nat → Option Value := fun b' o => if b' = b ∧ of + n * wd ≤ o ∧ o < of + n * wd + vs.length then vs[o - (of + n * wd)]? else C.Φ b' o
  have hΦne : ∀ b' o, b' ≠ b → Φ' b' o = C.Φ b' o := fun b' o h => by simp only [Φ']; rw [if_neg (fun e => h e.1)]
  have hle : Le C.Φ Φ' := by
    intro b' o v h
    simp only [Φ']
    rw [if_neg]
    · exact h
    · rintro ⟨rfl, h1, _⟩; rw [t1 o h1] at h; cases h
  have hcle := CLe.ofΦ (C := C) hle
  have hsub : SubΦ Φ' (w.setCells b (of + n * wd) vs) := by
    intro b' o v h
    simp only [Φ'] at h
    split at h
    · rename_i hc
      obtain ⟨rfl, h1, h2⟩ := hc
      have := hin (o - (of + n * wd)) (by omega)
      rw [show of + n * wd + (o - (of + n * wd)) = o by omega] at this
      rw [this, ← h, List.getElem?_eq_getElem (by omega)]
    · rename_i hc
      rw [hout]
      · exact R.sub b' o v h
      · rintro rfl
        by_cases h1 : of + n * wd ≤ o
        · rw [t1 o h1] at h; cases h
        · omega
  have hat : ∀ p, atPos (C.withΦ Φ') st a.tmps (w.setCells b (of + n * wd) vs) ex p = atPos C st a.tmps w ex p := by
    intro p
    cases p with
    | reg i => rfl
    | ex j => rfl
    | blk k => rfl
    | cell kk j =>
      simp only [atPos, Ctx.withΦ]
      cases hcs : cellsOf st kk with
      | none => rfl
      | some ds =>
        rw [hout _ _ (fun e => absurd e (hne (.blk kk) (C.β kk) (by simp [xb, liveK_of_cells hcs])))]
  have hxb : ∀ p, xb (C.withΦ Φ') st a.tmps (w.setCells b (of + n * wd) vs) ex p = xb C st a.tmps w ex p := by
    intro p
    cases p with
    | blk k => rfl
    | reg i => simp only [xb, hat]
    | ex j => simp only [xb, hat]
    | cell k j => simp only [xb, hat]
  have R' : Rel B (C.withΦ Φ') st a (w.setCells b (of + n * wd) vs) ex := by
    refine { len := R0.len, regs := fun i d v h1 h2 => RepD.mono hcle d v (lpD_all (fun _ => trivial) d) (R0.regs i d v h1 h2),
             exs := fun i q h => RepD.mono hcle _ _ (lpD_all (fun _ => trivial) _) (R0.exs i q h), cells := ?_, seals := fun s ps h => RepCells.mono hle _ _ _ (R0.seals s ps h), frzs := fun id ps h => RepCells.mono hle _ _ _ (R0.frzs id ps h),
             nh := R0.nh, hb := R0.hb, tails := ?_, inj := fun p q m h1 h2 => R0.inj p q m (by rw [← hxb]; exact h1) (by rw [← hxb]; exact h2), bound := ?_, empty := ?_, sub := hsub, frm := ?_,
             defs := R0.defs, defr := fun i q d h1 h2 => (R0.defr i q d h1 h2).mono hcle, maps := ?_, al := R0.al }
    · intro kk ds j d h1 h2
      obtain ⟨h3, v, h4, h5, h6, h7⟩ := R0.cells kk ds j d h1 h2
      have hnb := hne (.blk kk) (C.β kk) (by simp [xb, liveK_of_cells h1])
      exact ⟨h3, v, by show (w.setCells b (of + n * wd) vs).cell? ⟨C.β kk, j, none⟩ = _; rw [hout _ _ (fun e => absurd e hnb)]; exact h4, h5,
        RepD.mono hcle d v (lpD_all (fun _ => trivial) d) h6, by rw [hfz]; exact h7⟩
    · intro p d v h
      rw [hat] at h
      have ht := R0.tails p d v h
      unfold TailOK at ht ⊢
      split
      · rename_i wd' rows ad' n' cap''
        simp only [] at ht
        intro hn'
        obtain ⟨h1, h2⟩ := ht hn'
        have hb' : ad'.block ≠ b := by
          refine hne p _ ?_
          cases p with
          | blk k => simp [atPos] at h
          | reg i => simp [xb, h, tailBlk, hn']
          | ex i => simp [xb, h, tailBlk, hn']
          | cell k i => simp [xb, h, tailBlk, hn']
        refine ⟨fun o ho => by show Φ' _ _ = _; rw [hΦne _ _ hb']; exact h1 o ho, fun o ho1 ho2 => ?_⟩
        rw [hout _ _ (fun e => absurd e hb'), hfz]
        exact h2 o ho1 ho2
      · trivial
    · intro p m h
      rw [hxb] at h
      rw [size_setCells]; exact R0.bound p m h
    · intro kk h o'
      have := R0.empty kk h o'
      show Φ' (C.β kk) o' = _
      rw [hΦne _ _ (hne (.blk kk) (C.β kk) (by simp [xb, h]))]; exact this
    · obtain ⟨o1, o2, o3⟩ := os_setCells (b := b) vs (of + n * wd) w
      refine ⟨o1.trans R0.frm.os, o2.trans R0.frm.tape, o3.trans R0.frm.output, by rw [size_setCells]; exact R0.frm.size, fun b' hb' hX => ?_, fun b' hb' hX o' => ?_, R0.frm.Φle.trans hle⟩
      · have : b' ≠ b := by rintro rfl; rcases hb.2 with h | h; omega; exact hX h
        rw [heap_setCells_ne this]; exact R0.frm.block b' hb' hX
      · have : b' ≠ b := by rintro rfl; rcases hb.2 with h | h; omega; exact hX h
        show Φ' b' o' = _
        rw [hΦne _ _ this]; exact R0.frm.Φblock b' hb' hX o'
    · intro id es clock h
      obtain ⟨ms, h1, h2⟩ := R0.maps id es clock h
      refine ⟨ms, ?_, h2.mono hcle⟩
      show (w.setCells b (of + n * wd) vs).heap[C.β (.blk id)]? = _
      rw [heap_setCells_ne (hne (.blk (.blk id)) (C.β (.blk id)) (by simp [xb, liveK, h]))]; exact h1
  refine ⟨C.withΦ Φ', hcle, R'.pushOwn ?_ ?_ ?_⟩
  · simp only [RepD, RepP]
    refine ⟨b, of, cap, by simp [hnl, hk], by simp; omega, RepRows.mk fun i row hi => ?_⟩
    by_cases hlt : i < xs.length
    · rw [getL_append_left hlt] at hi
      obtain ⟨h1, h2⟩ := hxs.get hi
      exact ⟨h1, RepCells.mono hle _ _ _ h2⟩
    · have hi' : getL ys (i - xs.length) = some row := by
        rw [getL_eq] at hi ⊢
        rw [List.getElem?_append_right (by omega)] at hi; exact hi
      obtain ⟨h1, h2⟩ := hrows _ row hi'
      have hik := getL_lt hi'
      refine ⟨h1, RepCells.mk fun j p hp => ?_⟩
      obtain ⟨v, h3, h4⟩ := h2 j p hp
      have hjl := getL_lt hp
      have e1 : i * wd = n * wd + (i - xs.length) * wd := by rw [← Nat.add_mul]; congr 1; omega
      have hbd : (i - xs.length) * wd + wd ≤ k * wd := by rw [← Nat.succ_mul]; exact Nat.mul_le_mul_right _ (by omega)
      refine ⟨v, ?_, hcell v (List.mem_of_getElem? h3), RepP.mono hle p v h4⟩
      show Φ' b (of + i * wd + j) = some v
      simp only [Φ']
      rw [if_pos ⟨trivial, by omega, by omega⟩, ← h3]
      congr 1; omega
  · intro hn2
    simp only [] at hn2 ⊢
    refine ⟨fun o ho => ?_, fun o ho1 ho2 => ?_⟩
    · rw [Nat.add_mul] at ho
      show Φ' b o = none
      simp only [Φ']
      rw [if_neg (by omega)]
      exact t1 o (by omega)
    · rw [Nat.add_mul] at ho1
      rw [hout _ _ (fun _ => by omega), hfz]
      exact t2 o (by omega) ho2
  · intro m hm
    simp only [tailBlk] at hm
    split at hm
    · simp only [Option.some.injEq] at hm
      subst hm
      refine ⟨fun p hp => ?_, by rw [size_setCells]; exact hb.1, hb.2⟩
      rw [hxb] at hp
      exact hne p _ hp rfl
    · simp at hm
end
end Go.AE
end

section
namespace Go.AE
open Go
set_option linter.unusedSimpArgs false
set_option linter.unusedVariables false
section
variable {T : Program} {B : Base} {C : Ctx} {st : St} {a : Act} {w w' : World} {o : Oper}

/-- the cells of rows, one behind the other -/
theorem rows_cells {Φ : Nat → Nat → Option Value} {wd b of : Nat} {rows : List (List P)} (h : RepRows Φ wd b rows of) (hsub : SubΦ Φ w) :
    ∃ vs : List Value, vs.length = rows.length * wd ∧ (∀ j v, vs[j]? = some v → w.cell? ⟨b, of + j, none⟩ = some v ∧ isCell v = true) ∧
      ∀ i row, getL rows i = some row → row.length = wd ∧ ∀ j p, getL row j = some p → ∃ v, vs[i * wd + j]? = some v ∧ RepP Φ p v := by
  obtain ⟨vs, h1, h2⟩ := exists_list (rows.length * wd) (fun m v => w.cell? ⟨b, of + m, none⟩ = some v ∧ isCell v = true ∧ Φ b (of + m) = some v) fun m hm => by
    have hwd : 0 < wd := Nat.pos_of_ne_zero (by rintro rfl; simp at hm)
    have hi : m / wd < rows.length := Nat.div_lt_of_lt_mul (by rw [Nat.mul_comm]; exact hm)
    obtain ⟨row, hrow⟩ := getL_some hi
    obtain ⟨hl, hc⟩ := h.get hrow
    obtain ⟨p, hp⟩ := getL_some (l := row) (i := m % wd) (by rw [hl]; exact Nat.mod_lt _ hwd)
    obtain ⟨v, e1, e2, _⟩ := hc.get hp
    have : of + m / wd * wd + m % wd = of + m := by have := Nat.div_add_mod m wd; rw [Nat.mul_comm] at this; omega
    rw [this] at e1
    exact ⟨v, hsub _ _ _ e1, e2, e1⟩
  refine ⟨vs, h1, fun j v hj => ⟨(h2 j v hj).1, (h2 j v hj).2.1⟩, fun i row hi => ?_⟩
  obtain ⟨hl, hc⟩ := h.get hi
  refine ⟨hl, fun j p hp => ?_⟩
  obtain ⟨v, e1, _, e3⟩ := hc.get hp
  have hj := getL_lt hp
  have hi' := getL_lt hi
  have hb : i * wd + wd ≤ rows.length * wd := by rw [← Nat.succ_mul]; exact Nat.mul_le_mul_right _ hi'
  refine ⟨v, ?_, e3⟩
  have hlt : i * wd + j < vs.length := by omega
  have := (h2 (i * wd + j) vs[i * wd + j] (by simp [hlt])).2.2
  rw [List.getElem?_eq_getElem hlt]
  rw [show of + (i * wd + j) = of + i * wd + j by omega, e1] at this
  exact this.symm

def YsR (T : Program) (C : Ctx) (w : World) (sz : Nat) (ys : List (List P)) (v : Value) : Prop :=
  (∀ w2, (Builtin.lenOf v).run T w2 = .ok ys.length w2) ∧
    ∃ vs : List Value, vs.length = ys.length * sz ∧ (∀ u ∈ vs, isCell u = true) ∧
      (∀ w2, (∀ b, b < w.heap.size → w2.heap[b]? = w.heap[b]?) → (Builtin.firstCells sz ys.length v).run T w2 = .ok vs.toArray w2) ∧
      ∀ i row, getL ys i = some row → row.length = sz ∧ ∀ j p, getL row j = some p → ∃ u, vs[i * sz + j]? = some u ∧ RepP C.Φ p u

theorem slYs {rows : List (List P)} {wy : Nat} {v : Value} (hsub : SubΦ C.Φ w) (hrp : RepP C.Φ (.sl wy rows) v) : YsR T C w wy rows v := by
  simp only [RepP] at hrp
  obtain ⟨b, of, cap, rfl, hle, hrows⟩ := hrp
  obtain ⟨vs, h1, h2, h3⟩ := rows_cells hrows hsub
  refine ⟨fun w2 => by simp [Builtin.lenOf], vs, h1, fun u hu => ?_, fun w2 hw2 => ?_, h3⟩
  · obtain ⟨j, hj⟩ := List.getElem?_of_mem hu
    exact (h2 j u hj).2
  · refine run_firstCells_some w2 wy rows.length ⟨b, of, none⟩ rows.length cap vs h1 fun j u hj => ?_
    rw [Addr.add_lit]
    have := (h2 j u hj).1
    rw [cell?_of_heap (hw2 b (cell?_lt this))]; exact this

/-- what is appended, as cells -/
theorem ysOf_rep {ex : List (D × Value)} (R : Rel B C st a w ex) {sz wy : Nat} {d : D} {v : Value} {ys : List (List P)} (hr : RepD C d v) (h : ysOf sz d = some (wy, ys)) (hw : wy = sz) :
    YsR T C w sz ys v := by
  unfold ysOf at h
  split at h
  · -- a string
    rename_i s
    simp only [Option.some.injEq, Prod.mk.injEq] at h
    obtain ⟨rfl, rfl⟩ := h
    subst hw
    simp only [RepD, RepP] at hr
    rw [hr.1]
    have hl : (rowsOfBytes s.data.toList).length = s.size := by simp [rowsOfBytes]
    refine ⟨fun w2 => by simp [Builtin.lenOf, hl], s.data.toList.map (fun b => Value.int .u8 b.toNat), by simp [rowsOfBytes], ?_, fun w2 _ => ?_, ?_⟩
    · intro u hu
      simp only [List.mem_map] at hu
      obtain ⟨x, _, rfl⟩ := hu; rfl
    · rw [hl]
      have : s.extract 0 s.size = s := by simp
      simp only [Builtin.firstCells, this, Sem.run_pure]
      congr 1
      apply Array.ext'
      simp
    · intro i row hi
      simp only [rowsOfBytes, getL_map, Option.map_eq_some_iff] at hi
      obtain ⟨x, hx, rfl⟩ := hi
      refine ⟨rfl, fun j p hp => ?_⟩
      cases j with
      | zero =>
        simp only [getL, Option.some.injEq] at hp; subst hp
        refine ⟨.int .u8 x.toNat, ?_, by simp [RepP, plain]⟩
        rw [getL_eq] at hx
        simp only [Nat.mul_one, Nat.add_zero, List.getElem?_map]
        rw [hx]; rfl
      | succ j => simp [getL] at hp
  · -- nil
    simp only [Option.some.injEq, Prod.mk.injEq] at h
    obtain ⟨rfl, rfl⟩ := h
    simp only [RepD, RepP] at hr
    rw [hr.1]
    refine ⟨fun w2 => by simp [Builtin.lenOf], [], by simp, by simp, fun w2 _ => by simp [Builtin.firstCells], by intro i row hi; simp [getL] at hi⟩
  · rename_i rows
    simp only [Option.some.injEq, Prod.mk.injEq] at h
    obtain ⟨rfl, rfl⟩ := h
    subst hw
    exact slYs R.sub (by simpa only [RepD] using hr)
  · rename_i rows
    simp only [Option.some.injEq, Prod.mk.injEq] at h
    obtain ⟨rfl, rfl⟩ := h
    subst hw
    exact slYs R.sub (by simpa only [RepD] using hr)
  · simp at h

theorem chunk_length (w : Nat) : ∀ (n : Nat) (l : List P), (chunk w n l).length = n
  | 0, _ => rfl
  | n + 1, l => by simp [chunk, chunk_length w n]
theorem chunk_get (w : Nat) : ∀ (n : Nat) (l : List P) (i : Nat) (row : List P), getL (chunk w n l) i = some row → i < n ∧ row = (l.drop (i * w)).take w
  | 0, _, i, row, h => by simp [chunk, getL] at h
  | n + 1, l, 0, row, h => by simp only [chunk, getL, Option.some.injEq] at h; simp [← h]
  | n + 1, l, i + 1, row, h => by
    simp only [chunk, getL] at h
    obtain ⟨h1, h2⟩ := chunk_get w n (l.drop w) i row h
    refine ⟨by omega, ?_⟩
    rw [h2, List.drop_drop, Nat.succ_mul, Nat.add_comm w]


/-- an array that may change, as it is now -/
theorem msYs {ps : List P} {b wd lo n cap : Nat} (hw : wd ≠ 0) (hc : ∀ j p, getL ps j = some p → ∃ u, w.cell? ⟨b, j, none⟩ = some u ∧ isCell u = true ∧ RepP C.Φ p u) (hl : (lo + n) * wd ≤ ps.length) :
    YsR T C w wd (chunk wd n (ps.drop (lo * wd))) (.slice (some ⟨b, lo * wd, none⟩) n cap) := by
  have hlo : (lo + n) * wd = lo * wd + n * wd := Nat.add_mul ..
  obtain ⟨vs, h1, h2⟩ := exists_list (n * wd) (fun j v => w.cell? ⟨b, lo * wd + j, none⟩ = some v ∧ isCell v = true ∧ ∀ p, getL ps (lo * wd + j) = some p → RepP C.Φ p v) fun j hj => by
    obtain ⟨p, hp⟩ := getL_some (l := ps) (i := lo * wd + j) (by omega)
    obtain ⟨u, e1, e2, e3⟩ := hc _ p hp
    exact ⟨u, e1, e2, fun p' hp' => by rw [hp, Option.some.injEq] at hp'; subst hp'; exact e3⟩
  refine ⟨fun w2 => by simp [Builtin.lenOf, chunk_length], vs, by rw [h1, chunk_length], fun u hu => ?_, fun w2 hw2 => ?_, fun i row hi => ?_⟩
  · obtain ⟨j, hj⟩ := List.getElem?_of_mem hu
    exact (h2 j u hj).2.1
  · rw [chunk_length]
    refine run_firstCells_some w2 wd n ⟨b, lo * wd, none⟩ n cap vs h1 fun j u hj => ?_
    rw [Addr.add_lit]
    have := (h2 j u hj).1
    rw [cell?_of_heap (hw2 b (cell?_lt this))]; exact this
  · obtain ⟨hin, rfl⟩ := chunk_get wd n _ i row hi
    have hiw : (i + 1) * wd ≤ n * wd := Nat.mul_le_mul_right _ hin
    have hiw' : (i + 1) * wd = i * wd + wd := Nat.succ_mul ..
    refine ⟨by simp; omega, fun j p hp => ?_⟩
    rw [getL_take] at hp
    split at hp
    · rename_i hj
      rw [getL_drop, getL_drop] at hp
      have hv : i * wd + j < vs.length := by rw [h1]; omega
      refine ⟨vs[i * wd + j], by simp [hv], ?_⟩
      refine (h2 (i * wd + j) _ (by simp [hv])).2.2 p ?_
      rw [← hp]
    · simp at hp

theorem ysS_rep {ex : List (D × Value)} (R : Rel B C st a w ex) {sz wy : Nat} {d : D} {v : Value} {ys : List (List P)} (hr : RepD C d v) (h : ysS st sz d = some (wy, ys)) (hw : wy = sz) :
    YsR T C w sz ys v := by
  unfold ysS at h
  split at h
  · rename_i wd id lo n
    simp only [RepD] at hr
    obtain ⟨hid, cap, rfl, hcap⟩ := hr
    split at h
    · rename_i ds hds
      split at h
      · rename_i hc
        rw [Option.map_eq_some_iff] at h
        obtain ⟨ps, hps, h⟩ := h
        simp only [Prod.mk.injEq] at h
        obtain ⟨rfl, rfl⟩ := h
        subst hw
        refine msYs hc.1 (fun j p hp => ?_) (by rw [toPs_length hps]; exact hc.2)
        obtain ⟨d, hd, hdp⟩ := toPs_get hps hp
        obtain ⟨_, u, e1, e2, e3, _⟩ := R.cells (.blk id) ds j d (by simp [cellsOf, hds]) hd
        exact ⟨u, e1, e2, D.toP_rep hdp e3⟩
      · simp at h
    · rename_i ps hps
      split at h
      · rename_i hc
        simp only [Option.some.injEq, Prod.mk.injEq] at h
        obtain ⟨rfl, rfl⟩ := h
        subst hw
        refine msYs hc.1 (fun j p hp => ?_) hc.2
        obtain ⟨u, e1, e2, e3⟩ := (R.frzs id ps hps).get hp
        exact ⟨u, by have := R.sub _ _ _ e1; simpa using this, e2, e3⟩
      · simp at h
    · simp at h
  · exact ysOf_rep R hr h hw

theorem notIntT_spec {u : TypeId} (h : notIntT T u = true) : ∃ d, T.underlying u = some d ∧ ∀ k, d ≠ .int k := by
  unfold notIntT at h
  split at h
  · simp at h
  · rename_i d hd hne
    exact ⟨d, hne, fun k e => hd k e⟩
  · simp at h

/-- append into the room that there is -/
theorem run_append_none {t u e : TypeId} {i : TypeInfo} {ts : Array TypeId} {ty : TypeId} {sv xv : Value} {n cap k : Nat} {vs : List Value}
    (ht0 : ts[0]? = some t) (ht1 : ts[1]? = some u) (ht : T.underlying t = some (.slice e)) (hi : T.info? e = some i) (hu : notIntT T u = true)
    (hs : sv = .slice none n cap) (hlen : ∀ w2, (Builtin.lenOf xv).run T w2 = .ok k w2) (hf : (Builtin.firstCells i.size k xv).run T w = .ok vs.toArray w) (hroom : n + k ≤ cap) :
    (Builtin.append_ ts ty #[sv, xv]).run T w = .ok (.slice none (n + k) cap) w := by
  obtain ⟨d, hd, hdi⟩ := notIntT_spec hu
  have hz2 : (match d with | .int _ => true | _ => false) = false := by cases d <;> first | rfl | exact absurd rfl (hdi _)
  subst hs
  unfold Builtin.append_
  simp only [ht0, ht1]
  simp [run_underlying ht, run_underlying hd, run_typeInfoT hi, sizeOf, Result.andThen, hz2, hlen, hroom, hf]
theorem run_append_some {t u e : TypeId} {i : TypeInfo} {ts : Array TypeId} {ty : TypeId} {sv xv : Value} {ad : Addr} {n cap k : Nat} {vs : List Value}
    (ht0 : ts[0]? = some t) (ht1 : ts[1]? = some u) (ht : T.underlying t = some (.slice e)) (hi : T.info? e = some i) (hu : notIntT T u = true)
    (hs : sv = .slice (some ad) n cap) (hlen : ∀ w2, (Builtin.lenOf xv).run T w2 = .ok k w2) (hf : (Builtin.firstCells i.size k xv).run T w = .ok vs.toArray w) (hroom : n + k ≤ cap)
    (hst : (storeCells (ad.add (n * i.size)) vs).run T w = .ok () w') :
    (Builtin.append_ ts ty #[sv, xv]).run T w = .ok (.slice (some ad) (n + k) cap) w' := by
  obtain ⟨d, hd, hdi⟩ := notIntT_spec hu
  have hz2 : (match d with | .int _ => true | _ => false) = false := by cases d <;> first | rfl | exact absurd rfl (hdi _)
  subst hs
  unfold Builtin.append_
  simp only [ht0, ht1]
  simp [run_underlying ht, run_underlying hd, run_typeInfoT hi, sizeOf, Result.andThen, hz2, hlen, hroom, hf, hst]

/-- append into a new row -/
theorem run_append_out {t u e : TypeId} {i : TypeInfo} {z : Value} {ts : Array TypeId} {ty : TypeId} {sv xv : Value} {base : Option Addr} {n cap k : Nat} {vs olds : List Value}
    (ht0 : ts[0]? = some t) (ht1 : ts[1]? = some u) (ht : T.underlying t = some (.slice e)) (hi : T.info? e = some i) (hz : i.zero = some z) (hu : notIntT T u = true)
    (hs : sv = .slice base n cap) (hlen : ∀ w2, (Builtin.lenOf xv).run T w2 = .ok k w2) (hf : (Builtin.firstCells i.size k xv).run T w.drew = .ok vs.toArray w.drew)
    (hfo : (Builtin.firstCells i.size n sv).run T w.drew = .ok olds.toArray w.drew)
    (hroom : ¬ n + k ≤ cap) (h63 : n + k ≤ 2 ^ 46) (hfit : (n + k) * i.bytes ≤ 2 ^ 46) :
    (Builtin.append_ ts ty #[sv, xv]).run T w = .ok (.slice (some ⟨w.heap.size, 0, none⟩) (n + k) (grownCap w (n + k) cap e))
      (w.drew.alloc (.cells (olds.toArray ++ vs.toArray ++ Builtin.zeroCells z.cells (grownCap w (n + k) cap e - (n + k))) e)) := by
  obtain ⟨d, hd, hdi⟩ := notIntT_spec hu
  have hz2 : (match d with | .int _ => true | _ => false) = false := by cases d <;> first | rfl | exact absurd rfl (hdi _)
  have h63' : ¬ (9223372036854775807 < ((n : Int) + (k : Int))) := by
    have : n + k ≤ 70368744177664 := by simpa using h63
    omega
  have hfit' := growslice_fits (need := n + k) (old := cap) (bytes := i.bytes) (by omega) (by
    have : (n + k) * i.bytes ≤ 70368744177664 := by simpa using hfit
    omega)
  have h48' : ¬ (281474976710656 < Builtin.nextslicecap (n + k) cap * i.bytes) := by omega
  subst hs
  unfold Builtin.append_
  simp only [ht0, ht1]
  simp [run_underlying ht, run_underlying hd, run_typeInfoT hi, sizeOf, zeroValue, hi, hz, Result.andThen, hz2, hlen, hroom, hf, hfo, h63', h48', Question.forced, newRow, grownCap]
  have key : (olds.toArray ++ (vs.toArray ++ Builtin.zeroCells z.cells ((Question.appendCap (n + k) cap e).cut (w.tape w.drawn (Question.appendCap (n + k) cap e)) - (n + k)))) =
      ((olds ++ vs).toArray ++ Builtin.zeroCells z.cells ((Question.appendCap (n + k) cap e).cut (w.tape w.drawn (Question.appendCap (n + k) cap e)) - (n + k))) := by
    apply Array.ext'
    simp
  first | (rw [key]; done) | (rw [key]; rfl)

theorem pbr_elim {b : Bool} {x y : Prop} (h : pbr b x y) : (b = true ∧ x) ∨ (b = false ∧ y) := by
  unfold pbr at h
  cases b
  · exact .inr ⟨rfl, h⟩
  · exact .inl ⟨rfl, h⟩
theorem preq_elim {c x : Prop} (h : preq c x) : c ∧ x := by unfold preq at h; exact h
theorem prow_elim {rows : List (List P)} {i : Nat} {k : List P → Prop} (h : prow rows i k) : ∃ r, getL rows i = some r ∧ k r := by unfold prow at h; exact h

theorem drewAlloc_cell {arr : Array Value} {e : TypeId} (j : Nat) : (w.drew.alloc (.cells arr e)).cell? ⟨w.heap.size, j, none⟩ = arr[j]? := by
  have : (w.drew.alloc (.cells arr e)).heap[w.heap.size]? = some (.cells arr e) := heap_alloc_new (w := w.drew)
  simp only [World.cell?, this]
  simp
theorem drewAlloc_frozen {arr : Array Value} {e : TypeId} (j : Nat) : (w.drew.alloc (.cells arr e)).frozen? ⟨w.heap.size, j, none⟩ = false := by
  have : (w.drew.alloc (.cells arr e)).heap[w.heap.size]? = some (.cells arr e) := heap_alloc_new (w := w.drew)
  simp only [World.frozen?, this]
  simp

/-- the new row of an append -/
theorem Rel.appendNew {ex : List (D × Value)} (R : Rel B C st a w ex) {sz cap : Nat} {rows : List (List P)} {vs : List Value} {z : Array Value} (e : TypeId)
    (hlen : vs.length = rows.length * sz) (hcell : ∀ v ∈ vs, isCell v = true) (hz : z.size = sz) (hcap : rows.length ≤ cap)
    (hrows : ∀ i row, getL rows i = some row → row.length = sz ∧ ∀ j p, getL row j = some p → ∃ v, vs[i * sz + j]? = some v ∧ RepP C.Φ p v) :
    ∃ C', CLe (fun _ => True) C C' ∧ Rel B C' st a (w.drew.alloc (.cells (vs.toArray ++ Builtin.zeroCells z (cap - rows.length)) e)) ((.own sz rows, .slice (some ⟨w.heap.size, 0, none⟩) rows.length cap) :: ex) := by
  have hsz : (vs.toArray ++ Builtin.zeroCells z (cap - rows.length)).size = cap * sz := by
    rw [Array.size_append, size_zeroCells, hz, List.size_toArray, hlen, ← Nat.add_mul]
    congr 1; omega
  refine R.newOwn (fun b hb => heap_alloc_lt (w := w.drew) hb) (size_alloc (w := w.drew)) rfl rfl rfl hlen hcell (fun j v hj => ?_) hcap (fun o' h1 h2 => ?_) hrows
  · rw [drewAlloc_cell]
    have hlt : j < vs.length := (List.getElem?_eq_some_iff.1 hj).1
    rw [Array.getElem?_append_left (by simpa using hlt)]
    simpa using hj
  · rw [drewAlloc_cell, drewAlloc_frozen]
    refine ⟨?_, rfl⟩
    rw [Array.getElem?_eq_getElem (by omega)]; rfl

theorem isCell_zero {z : Value} (h : plainV z = true) (ht : ∀ vs, z ≠ .tuple vs) : ∀ u ∈ z.cells.toList, isCell u = true := (ofVal_cells h ht (fun _ _ => none)).2

theorem append_ok {args : Array Operand} {argTypes : Array TypeId} (R : Rel B C st a w []) (hop : o.op = .call { callee := .builtin .append, args, argTypes })
    {CALL : FuncId → List D → List Blk → (Res → List Blk → Prop) → Prop} {DFR : List (FuncId × List D) → Ex → List Blk → (Ex → List Blk → Prop) → Prop} {esc ap : List Tmp}
    {k : D → St → Prop} {kp : P → St → Prop} (h : eop T (AP CALL DFR) esc ap st o k kp) : OpOK T B o a w k kp := by
  unfold eop at h
  rw [hop] at h
  simp only [] at h
  split at h
  case h_2 => exact h.elim
  rename_i x y t u hx hy ht0 ht1
  split at h
  case h_2 => exact h.elim
  rename_i e he hu
  split at h
  case h_2 => exact h.elim
  rename_i i z hi hz
  split at h
  case isFalse => exact h.elim
  rename_i hzl
  split at h
  case h_2 => exact h.elim
  rename_i wy ys hys
  split at h
  case isFalse => exact h.elim
  rename_i hwy
  have hue := elemT_spec he
  have hi' : T.info? e = some i := hi
  obtain ⟨hlen, vs, v1, v2, v3, v4⟩ := ysS_rep (T := T) R (R.opd y) hys hwy
  obtain ⟨zv, hzv, hzp, rfl, hznt⟩ := zeroT_spec hz
  have hzi : i.zero = some zv := by
    have := hzv w
    simp only [zeroValue, Sem.run_bind, run_typeInfoT hi', Result.andThen_ok] at this
    cases hq : i.zero with
    | none => rw [hq] at this; simp at this
    | some q => rw [hq] at this; simp at this; rw [this]
  have hzc : zv.cells.size = i.size := by
    have := (ofVal_cells hzp hznt C.Φ).1.length
    rw [hzl] at this; simpa using this.symm
  -- the operation
  have hexec : ∀ w2 r, (Builtin.append_ argTypes o.type (args.map a.eval)).run T w2 = r → (execOp a.eval o).run T w2 = r.andThen fun v w3 => .ok (.value v) w3 := by
    intro w2 r hr
    unfold execOp; rw [hop]
    simp [resolve, invoke, builtin, hr]
  have hargs : ∀ w2, (Builtin.append_ argTypes o.type (args.map a.eval)).run T w2 = (Builtin.append_ argTypes o.type #[a.eval x, a.eval y]).run T w2 := by
    intro w2
    unfold Builtin.append_
    simp [ht0, hx, hy]
  have hsame : ∀ (base : Option Addr) (n cap : Nat), a.eval x = .slice base n cap → n ≤ cap → ys = [] → (execOp a.eval o).run T w = .ok (.value (a.eval x)) w := by
    intro base n cap e1 e2 e3
    subst e3
    have hvs0 : vs = [] := by cases vs with | nil => rfl | cons q qs => simp at v1
    subst hvs0
    cases base with
    | none =>
      have := run_append_none (ty := o.type) (w := w) ht0 ht1 hue hi' hu e1 hlen (v3 w (fun _ _ => rfl)) (by simpa using e2)
      rw [hexec w _ (hargs w), this]; simp [e1]
    | some ad =>
      have := run_append_some (ty := o.type) (w := w) (w' := w) ht0 ht1 hue hi' hu e1 hlen (v3 w (fun _ _ => rfl)) (by simpa using e2) (by simp [storeCells])
      rw [hexec w _ (hargs w), this]; simp [e1]
  split at h
  · -- to nil
    rename_i hd
    have hv : a.eval x = .slice none 0 0 := isNilSl_rep (d := opdD st.r x) (by rw [hd]; rfl) (R.opd x)
    rcases pbr_elim h with ⟨h1, h2⟩ | ⟨h1, h2⟩
    · have := hsame none 0 0 hv (Nat.le_refl _) (by simpa using h1)
      rw [hv] at this
      exact ok_value this h2 (R.push rfl (by simp [RepD, RepP, plain]))
    · obtain ⟨⟨h3, h4⟩, h5⟩ := preq_elim h2
      have hne : ys ≠ [] := by simpa using h1
      have hpos : 0 < ys.length := List.length_pos_iff.2 hne
      have hrun := run_append_out (ty := o.type) (w := w) (olds := []) ht0 ht1 hue hi' hzi hu hv hlen (v3 w.drew (fun _ _ => rfl)) (by rw [hv]; simp [Builtin.firstCells]) (by omega) (by simpa using h3) (by simpa using h4)
      obtain ⟨C', _, R'⟩ := R.appendNew (cap := grownCap w (0 + ys.length) 0 e) (z := zv.cells) e v1 v2 hzc (by have := grownCap_ge w (0 + ys.length) 0 e; omega) v4
      refine ok_value (C' := C') ?_ h5 R'
      rw [hexec w _ (hargs w), hrun]
      simp
  · -- to a slice that has a tail
    rename_i wd xs hd
    obtain ⟨t', rfl⟩ : ∃ t', x = .tmp t' := by
      cases x with
      | tmp t' => exact ⟨t', rfl⟩
      | const v => simp only [opdD] at hd; split at hd <;> simp at hd
      | func f => simp [opdD] at hd
      | global g => simp [opdD] at hd
    split at h
    case isFalse => exact h.elim
    rename_i hwd
    subst hwd
    have hrd := R.opd (.tmp t')
    rw [hd] at hrd
    have Rg := R.give t'
    rw [hd] at Rg
    simp only [RepD, RepP] at hrd
    obtain ⟨b, of, cap, hv, hle, hxs⟩ := hrd
    rw [hv] at Rg
    rcases pbr_elim h with ⟨h1, h2⟩ | ⟨h1, h2⟩
    · have := hsame _ _ _ hv hle (by simpa using h1)
      rw [hv] at this
      exact ok_value this h2 Rg
    · obtain ⟨⟨h3, h4⟩, h5⟩ := preq_elim h2
      have hne : ys ≠ [] := by simpa using h1
      have hpos : 0 < ys.length := List.length_pos_iff.2 hne
      by_cases hroom : xs.length + ys.length ≤ cap
      · -- in place
        obtain ⟨t1, t2⟩ := Rg.tails (.ex 0) _ _ rfl (by omega)
        simp only [] at t1 t2
        have hcw : (xs.length + ys.length) * i.size ≤ cap * i.size := Nat.mul_le_mul_right _ hroom
        rw [Nat.add_mul] at hcw
        have hst := run_storeCells_cells (P := T) b (of + xs.length * i.size) vs 0 w (fun j hj => by simpa using (t2 (of + xs.length * i.size + j) (by omega) (by omega)).1)
          (fun j hj => by simpa using (t2 (of + xs.length * i.size + j) (by omega) (by omega)).2) (fun u hu' => isCell_one (v2 u hu'))
        have hrun := run_append_some (ty := o.type) (w := w) ht0 ht1 hue hi' hu hv hlen (v3 w (fun _ _ => rfl)) hroom (by rw [Addr.add_lit]; simpa using hst)
        obtain ⟨C', _, R'⟩ := Rg.growOwn (by omega) rfl hroom v1 v2 v4
        refine ok_value (C' := C') ?_ h5 R'
        rw [hexec w _ (hargs w), hrun]
        simp only [Result.andThen_ok]
      · -- a new row
        obtain ⟨os, o1, o2, o3⟩ := rows_cells hxs R.sub
        have hfo : (Builtin.firstCells i.size xs.length (a.eval (.tmp t'))).run T w.drew = .ok os.toArray w.drew := by
          rw [hv]
          refine run_firstCells_some w.drew i.size xs.length ⟨b, of, none⟩ xs.length cap os o1 fun j u hj => ?_
          rw [Addr.add_lit]
          exact (o2 j u hj).1
        have hrun := run_append_out (ty := o.type) (w := w) ht0 ht1 hue hi' hzi hu hv hlen (v3 w.drew (fun _ _ => rfl)) hfo hroom h3 h4
        have Rd := Rg.drop
        obtain ⟨C', _, R'⟩ := Rd.appendNew (sz := i.size) (rows := xs ++ ys) (vs := os ++ vs) (cap := grownCap w (xs.length + ys.length) cap e) (z := zv.cells) e
          (by simp [o1, v1, Nat.add_mul]) (fun u hu' => by
            rcases List.mem_append.1 hu' with h | h
            · obtain ⟨j, hj⟩ := List.getElem?_of_mem h; exact (o2 j u hj).2
            · exact v2 u h) hzc (by have := grownCap_ge w (xs.length + ys.length) cap e; simpa using this) (fun ii row hii => by
            by_cases hlt : ii < xs.length
            · rw [getL_append_left hlt] at hii
              obtain ⟨q1, q2⟩ := o3 ii row hii
              refine ⟨q1, fun j p hp => ?_⟩
              obtain ⟨u, q3, q4⟩ := q2 j p hp
              exact ⟨u, by rw [List.getElem?_append_left (List.getElem?_eq_some_iff.1 q3).1]; exact q3, q4⟩
            · have hii' : getL ys (ii - xs.length) = some row := by
                rw [getL_eq] at hii ⊢
                rw [List.getElem?_append_right (by omega)] at hii; exact hii
              obtain ⟨q1, q2⟩ := v4 _ row hii'
              refine ⟨q1, fun j p hp => ?_⟩
              obtain ⟨u, q3, q4⟩ := q2 j p hp
              refine ⟨u, ?_, q4⟩
              have e1 : ii * i.size = xs.length * i.size + (ii - xs.length) * i.size := by rw [← Nat.add_mul]; congr 1; omega
              rw [List.getElem?_append_right (by omega), o1, e1, ← q3]
              congr 1; omega)
        refine ok_value (C' := C') ?_ h5 R'
        rw [hexec w _ (hargs w), hrun]
        simp
  · -- nothing to a slice
    rename_i wd xs hd
    obtain ⟨h1, h2⟩ := preq_elim h
    have hrd := R.opd x
    rw [hd] at hrd
    simp only [RepD, RepP] at hrd
    obtain ⟨b, of, cap, hv, hle, hxs⟩ := hrd
    have := hsame _ _ _ hv hle (by simpa using h1)
    exact ok_value this h2 (R.push rfl (by rw [← hd]; exact R.opd x))
  · exact h.elim
end
end Go.AE
end

section
namespace Go.AE
open Go
set_option linter.unusedSimpArgs false
set_option linter.unusedVariables false
section
variable {T : Program} {B : Base} {C : Ctx} {st : St} {a : Act} {w w' : World} {o : Oper}

theorem Rel.sealed {ex : List (D × Value)} (R : Rel B C st a w ex) {s : Nat} {ds : List D} {ps : List P} (hs : getL st.b s = some (.live ds)) (hp : toPs ds = some ps) :
    ∃ C', CLe (fun _ => True) C C' ∧ Rel B C' { st with b := setL st.b s (.sealed ps) } a w ex ∧ RepCells C'.Φ (C.β (.box s)) ps 0 ∧ C'.β = C.β := by
  have hk : cellsOf st (.box s) = some ds := by simp [cellsOf, hs]
  have hlive := liveK_of_cells hk
  have hlt := getL_lt hs
  have hempty := R.empty (.box s) hlive
  have hpl := toPs_length hp
  let Φ' : Nat → Nat → Option Value := fun b o => if b = C.β (.box s) ∧ o < ps.length then w.cell? ⟨b, o, none⟩ else C.Φ b o
  have hΦne : ∀ b o, b ≠ C.β (.box s) → Φ' b o = C.Φ b o := fun b o h => by simp only [Φ']; rw [if_neg (fun e => h e.1)]
  have hle : Le C.Φ Φ' := by
    intro b o v h
    simp only [Φ']
    rw [if_neg]
    · exact h
    · rintro ⟨rfl, _⟩; rw [hempty o] at h; cases h
  have hcle := CLe.ofΦ (C := C) hle
  have hsub : SubΦ Φ' w := by
    intro b o v h
    simp only [Φ'] at h
    split at h
    · exact h
    · exact R.sub b o v h
  have hc : ∀ k, k ≠ .box s → cellsOf { st with b := setL st.b s (.sealed ps) } k = cellsOf st k := by
    intro k hne
    cases k with
    | box s' =>
      have : s' ≠ s := fun e => hne (by rw [e])
      simp only [cellsOf, getL_setL]; rw [if_neg (by omega)]
    | blk id => rfl
  have hl : ∀ k, k ≠ .box s → liveK { st with b := setL st.b s (.sealed ps) } k = liveK st k := by
    intro k hne
    cases k with
    | box s' =>
      have : s' ≠ s := fun e => hne (by rw [e])
      simp only [liveK, getL_setL]; rw [if_neg (by omega)]
    | blk id => rfl
  have hcs : cellsOf { st with b := setL st.b s (.sealed ps) } (.box s) = none := by simp [cellsOf, getL_setL, hlt]
  have hls : liveK { st with b := setL st.b s (.sealed ps) } (.box s) = false := by simp [liveK, getL_setL, hlt]
  have hat : ∀ p d v, atPos (C.withΦ Φ') { st with b := setL st.b s (.sealed ps) } a.tmps w ex p = some (d, v) → atPos C st a.tmps w ex p = some (d, v) := by
    intro p d v h
    cases p with
    | reg i => exact h
    | ex j => exact h
    | blk k => exact h
    | cell k j =>
      by_cases hne : k = .box s
      · subst hne; simp only [atPos, hcs, Option.bind_none, both] at h; cases h
      · simp only [atPos, hc k hne, Ctx.withΦ] at h ⊢; exact h
  have hxb : ∀ p n, xb (C.withΦ Φ') { st with b := setL st.b s (.sealed ps) } a.tmps w ex p = some n → xb C st a.tmps w ex p = some n ∧ p ≠ .blk (.box s) := by
    intro p n h
    cases p with
    | reg i =>
      simp only [xb, Option.bind_eq_some_iff] at h ⊢
      obtain ⟨⟨d, v⟩, h1, h2⟩ := h
      exact ⟨⟨(d, v), hat _ d v h1, h2⟩, by simp⟩
    | ex i =>
      simp only [xb, Option.bind_eq_some_iff] at h ⊢
      obtain ⟨⟨d, v⟩, h1, h2⟩ := h
      exact ⟨⟨(d, v), hat _ d v h1, h2⟩, by simp⟩
    | cell k i =>
      simp only [xb, Option.bind_eq_some_iff] at h ⊢
      obtain ⟨⟨d, v⟩, h1, h2⟩ := h
      exact ⟨⟨(d, v), hat _ d v h1, h2⟩, by simp⟩
    | blk k =>
      by_cases hne : k = .box s
      · subst hne; simp [xb, hls] at h
      · refine ⟨?_, by simpa using hne⟩
        simp only [xb, hl k hne, Ctx.withΦ] at h ⊢; exact h
  have hcells : RepCells Φ' (C.β (.box s)) ps 0 := by
    refine RepCells.mk fun i p hi => ?_
    obtain ⟨d, hd, hdp⟩ := toPs_get hp hi
    obtain ⟨_, v, h1, h2, h3, _⟩ := R.cells (.box s) ds i d hk hd
    refine ⟨v, ?_, h2, RepP.mono hle p v (D.toP_rep hdp h3)⟩
    simp only [Φ', Nat.zero_add]
    rw [if_pos ⟨trivial, getL_lt hi⟩]; exact h1
  have hxs : xb C st a.tmps w ex (.blk (.box s)) = some (C.β (.box s)) := by simp [xb, hlive]
  refine ⟨C.withΦ Φ', hcle, ?_, hcells, rfl⟩
  refine { len := R.len, regs := fun i d v h1 h2 => RepD.mono hcle d v (lpD_all (fun _ => trivial) d) (R.regs i d v h1 h2),
           exs := fun i q h => RepD.mono hcle _ _ (lpD_all (fun _ => trivial) _) (R.exs i q h), cells := ?_, seals := ?_, frzs := fun id ps h => RepCells.mono hle _ _ _ (R.frzs id ps h),
           nh := R.nh, hb := R.hb, tails := ?_, inj := fun p q n h1 h2 => R.inj p q n (hxb p n h1).1 (hxb q n h2).1, bound := fun p n h => R.bound p n (hxb p n h).1, empty := ?_, sub := hsub, frm := ?_,
           defs := R.defs, defr := fun i q d h1 h2 => (R.defr i q d h1 h2).mono hcle, maps := ?_, al := ?_ }
  · intro k ds' j d h1 h2
    by_cases hne : k = .box s
    · subst hne; rw [hcs] at h1; cases h1
    · rw [hc k hne] at h1
      obtain ⟨h3, v, h4, h5, h6, h7⟩ := R.cells k ds' j d h1 h2
      exact ⟨h3, v, h4, h5, RepD.mono hcle d v (lpD_all (fun _ => trivial) d) h6, h7⟩
  · intro s'
    show C.al s' ↔ _
    rw [R.al s']
    simp only [boxed, getL_setL]
    by_cases e : s' = s
    · subst e; simp [hlt, hs]
    · rw [if_neg (by omega)]
  · intro s' ps' h
    simp only [getL_setL] at h
    by_cases e : s' = s
    · subst e
      simp only [true_and, hlt, if_true, Option.some.injEq, Box.sealed.injEq] at h
      subst h
      exact hcells
    · rw [if_neg (by omega)] at h
      exact RepCells.mono hle _ _ _ (R.seals s' ps' h)
  · intro p d v h
    have h' := hat p d v h
    have ht := R.tails p d v h'
    unfold TailOK at ht ⊢
    split
    · rename_i wd rows ad n cap
      simp only [] at ht
      intro hn
      obtain ⟨h1, h2⟩ := ht hn
      refine ⟨fun o ho => ?_, h2⟩
      have hb : ad.block ≠ C.β (.box s) := by
        intro e
        have hx : xb C st a.tmps w ex p = some ad.block := by
          cases p with
          | blk k => simp [atPos] at h'
          | reg i => simp [xb, h', tailBlk, hn]
          | ex i => simp [xb, h', tailBlk, hn]
          | cell k i => simp [xb, h', tailBlk, hn]
        have := R.inj p (.blk (.box s)) ad.block hx (by rw [hxs, e])
        subst this
        simp [atPos] at h'
      show Φ' _ _ = _
      rw [hΦne _ _ hb]; exact h1 o ho
    · trivial
  · intro k h o
    by_cases hne : k = .box s
    · subst hne; rw [hls] at h; cases h
    · rw [hl k hne] at h
      have hb : C.β k ≠ C.β (.box s) := by
        intro e
        have := R.inj (.blk k) (.blk (.box s)) (C.β k) (by simp [xb, h]) (by rw [hxs, e])
        simp only [Pos.blk.injEq] at this
        exact hne this
      show Φ' (C.β k) o = none
      rw [hΦne _ _ hb]; exact R.empty k h o
  · refine ⟨R.frm.os, R.frm.tape, R.frm.output, R.frm.size, R.frm.block, fun b hb hX o => ?_, R.frm.Φle.trans hle⟩
    have : b ≠ C.β (.box s) := by
      rintro rfl
      rcases (R.bound _ _ hxs).2 with h | h
      · omega
      · exact hX h
    show Φ' b o = _
    rw [hΦne _ _ this]; exact R.frm.Φblock b hb hX o
  · intro id es clock h
    obtain ⟨ms, h1, h2⟩ := R.maps id es clock h
    exact ⟨ms, h1, h2.mono hcle⟩

mutual
theorem okArg_down : ∀ {d : D}, okArg d = true → okArg (downD d) = true
  | .own _ _, _ => by simp [downD, okArg]
  | .agg ds, h => by simp only [okArg] at h; simp only [downD, okArg]; exact okArgs_down1 h
  | .tup ds, h => by simp only [okArg] at h; simp only [downD, okArg]; exact okArgs_down1 h
  | .p _, h => by simpa [downD] using h
  | .lp _ _, h => by simpa [downD] using h
  | .ref _ _, h => by simpa [downD] using h
  | .ms _ _ _ _, h => by simpa [downD] using h
  | .mp _, h => by simpa [downD] using h
  | .fn _ _, h => by simpa [downD] using h
  | .dead, h => by simpa [downD] using h
theorem okArgs_down1 : ∀ {ds : List D}, okArgs ds = true → okArgs (ds.map down1) = true
  | [], _ => by simp [okArgs]
  | d :: ds, h => by
    simp only [okArgs, Bool.and_eq_true] at h
    simp only [List.map_cons, okArgs, Bool.and_eq_true]
    refine ⟨?_, okArgs_down1 h.2⟩
    have := h.1
    cases d <;> simp_all [down1, okArg]
end

theorem sealSt_ok {ex : List (D × Value)} (R : Rel B C st a w ex) {d d' : D} {v : Value} {st' : St} (hr : RepD C d v) (h : sealSt st d = some (d', st')) :
    ∃ C', CLe (fun _ => True) C C' ∧ Rel B C' st' a w ex ∧ RepD C' d' v ∧ okArg d' = true ∧ loose d' = true ∧ st'.h = st.h ∧ st'.r = st.r ∧ st'.df = st.df := by
  have other : (if okArg d then some (downD d, st) else none) = some (d', st') →
      ∃ C', CLe (fun _ => True) C C' ∧ Rel B C' st' a w ex ∧ RepD C' d' v ∧ okArg d' = true ∧ loose d' = true ∧ st'.h = st.h ∧ st'.r = st.r ∧ st'.df = st.df := by
    intro h
    split at h
    · rename_i hok
      simp only [Option.some.injEq, Prod.mk.injEq] at h
      obtain ⟨rfl, rfl⟩ := h
      exact ⟨C, CLe.ofΦ (Le.refl _), R, hr.down, okArg_down hok, loose_downD d, rfl, rfl, rfl⟩
    · simp at h
  cases d with
  | lp s o' =>
    simp only [RepD] at hr
    simp only [sealSt] at h
    split at h
    · rename_i ds hds
      rw [Option.map_eq_some_iff] at h
      obtain ⟨ps, hps, h⟩ := h
      simp only [Prod.mk.injEq] at h
      obtain ⟨rfl, rfl⟩ := h
      obtain ⟨C', h1, h2, h3, h4⟩ := R.sealed hds hps
      refine ⟨C', h1, h2, ?_, by simp [okArg], rfl, rfl, rfl, rfl⟩
      simp only [RepD, RepP]
      refine ⟨C.β (.box s), 0, by rw [hr.2]; simp, ?_⟩
      simp only [RepRows]
      exact ⟨trivial, h3, trivial⟩
    · rename_i ps hps
      simp only [Option.some.injEq, Prod.mk.injEq] at h
      obtain ⟨rfl, rfl⟩ := h
      refine ⟨C, CLe.ofΦ (Le.refl _), R, ?_, by simp [okArg], rfl, rfl, rfl, rfl⟩
      simp only [RepD, RepP]
      refine ⟨C.β (.box s), 0, by rw [hr.2]; simp, ?_⟩
      simp only [RepRows]
      exact ⟨trivial, R.seals s ps hps, trivial⟩
    · simp at h
  | _ => exact other (by simpa only [sealSt] using h)

theorem sealAll_ok {ex : List (D × Value)} : ∀ {ds : List D} {C : Ctx} {st : St} {vs : List Value} {ds' : List D} {st' : St}, Rel B C st a w ex → RepDs C ds vs → sealAll st ds = some (ds', st') →
    ∃ C', CLe (fun _ => True) C C' ∧ Rel B C' st' a w ex ∧ RepDs C' ds' vs ∧ okArgs ds' = true ∧ (∀ i d, getL ds' i = some d → loose d = true) ∧ st'.h = st.h ∧ st'.r = st.r ∧ st'.df = st.df
  | [], C, st, vs, ds', st', R, hr, h => by
    simp only [sealAll, Option.some.injEq, Prod.mk.injEq] at h
    obtain ⟨rfl, rfl⟩ := h
    exact ⟨C, CLe.ofΦ (Le.refl _), R, hr, by simp [okArgs], by intro i d hd; simp [getL] at hd, rfl, rfl, rfl⟩
  | d :: ds, C, st, vs, ds', st', R, hr, h => by
    simp only [sealAll] at h
    split at h
    · rename_i d1 st1 h1
      split at h
      · rename_i ds2 st2 h2
        simp only [Option.some.injEq, Prod.mk.injEq] at h
        obtain ⟨rfl, rfl⟩ := h
        simp only [RepDs] at hr
        obtain ⟨v, vs', rfl, r1, r2⟩ := hr
        obtain ⟨C1, c1, R1, q1, q2, q3, q4, q5, q6⟩ := sealSt_ok R r1 h1
        obtain ⟨C2, c2, R2, p1, p2, p3, p4, p5, p6⟩ := sealAll_ok R1 (RepDs.mono c1 ds vs' (lpDs_all (fun _ => trivial) ds) r2) h2
        refine ⟨C2, ⟨c1.Φ.trans c2.Φ, Nat.le_trans c1.nh c2.nh, fun id hid => by rw [c2.blk id (Nat.lt_of_lt_of_le hid c1.nh), c1.blk id hid],
          fun s _ hs => by
            obtain ⟨e1, e2⟩ := c1.box s trivial hs
            obtain ⟨e3, e4⟩ := c2.box s trivial e1
            exact ⟨e3, e4.trans e2⟩⟩, R2, ?_, ?_, ?_, by rw [p4, q4], by rw [p5, q5], by rw [p6, q6]⟩
        · simp only [RepDs]
          exact ⟨v, vs', rfl, RepD.mono c2 d1 v (lpD_all (fun _ => trivial) d1) q1, p1⟩
        · simp [okArgs, q2, p2]
        · intro i x hx
          cases i with
          | zero => simp only [getL, Option.some.injEq] at hx; subst hx; exact q3
          | succ i => exact p3 i x (by simpa [getL] using hx)
      · simp at h
    · simp at h

theorem opds_rep {ex : List (D × Value)} (R : Rel B C st a w ex) : ∀ (xs : List Operand), RepDs C (xs.map (opdD st.r)) (xs.map a.eval)
  | [] => by simp [RepDs]
  | x :: xs => by simp only [List.map_cons, RepDs]; exact ⟨_, _, rfl, R.opd x, opds_rep R xs⟩
end
end Go.AE
end

section
namespace Go.AE
open Go
set_option linter.unusedSimpArgs false
set_option linter.unusedVariables false
section
variable {T : Program} {B : Base} {C C' : Ctx} {st : St} {a : Act} {w w' : World} {o : Oper}

def stH (h : List Blk) : St := { r := [], b := [], h }
def actE : Act := { tmps := #[], defers := [] }
def baseOf (C : Ctx) (w : World) (h : List Blk) : Base := { w, Φ := C.Φ, X := fun n => ∃ p, xb C (stH h) #[] w [] p = some n, nh := h.length, β := fun id => C.β (.blk id) }
def noBox (C : Ctx) : Ctx := { C with al := fun _ => False }

/-- what a callee may lean on -/
def HRel (C : Ctx) (w : World) (h : List Blk) : Prop := Rel (baseOf C w h) C (stH h) actE w []

/-- what it hands back -/
def HPost (C : Ctx) (w : World) (h : List Blk) (C' : Ctx) (w' : World) (h' : List Blk) (r : Res) (e : Ending) : Prop :=
  match r with
  | .ret d => ∃ v, e = .returned v ∧ okArg d = true ∧ Rel (baseOf C w h) C' (stH h') actE w' [(d, v)]
  | .pan p => ∃ v, e = .panicked [{ v, recovered := false }] ∧ Rel (baseOf C w h) C' (stH h') actE w' [(.p p, v)]

def CallOK (T : Program) (f : FuncId) (ds : List D) (h : List Blk) (K : Res → List Blk → Prop) : Prop :=
  ∀ (C : Ctx) (w : World) (vs : List Value), RepDs C ds vs → okArgs ds = true → (∀ i d, getL ds i = some d → loose d = true) → HRel C w h →
    Calls T f vs.toArray w fun e w' => ∃ C' r h', K r h' ∧ HPost C w h C' w' h' r e

theorem stH_cells {h : List Blk} {k : K} {ds : List D} (e : cellsOf (stH h) k = some ds) : ∃ id, k = .blk id := by
  cases k with
  | box s => simp [cellsOf, stH, getL] at e
  | blk id => exact ⟨id, rfl⟩
theorem stH_live {h : List Blk} {k : K} (e : liveK (stH h) k = true) : ∃ id, k = .blk id := by
  cases k with
  | box s => simp [liveK, stH, getL] at e
  | blk id => exact ⟨id, rfl⟩
theorem cellsOf_stH (id : Nat) : cellsOf (stH st.h) (.blk id) = cellsOf st (.blk id) := rfl
theorem liveK_stH (id : Nat) : liveK (stH st.h) (.blk id) = liveK st (.blk id) := rfl

/-- positions that a callee sees -/
def seen : Pos → Bool
  | .cell (.blk _) _ | .blk (.blk _) => true
  | _ => false

theorem xb_stH {p : Pos} {ex : List (D × Value)} (hp : seen p = true) : xb C (stH st.h) #[] w [] p = xb C st a.tmps w ex p ∧ atPos C (stH st.h) #[] w [] p = atPos C st a.tmps w ex p := by
  cases p with
  | reg i => simp [seen] at hp
  | ex j => simp [seen] at hp
  | cell k j => cases k with
    | box s => simp [seen] at hp
    | blk id => exact ⟨rfl, rfl⟩
  | blk k => cases k with
    | box s => simp [seen] at hp
    | blk id => exact ⟨rfl, rfl⟩
theorem xb_stH_seen {h : List Blk} {p : Pos} {n : Nat} (e : xb C (stH h) #[] w [] p = some n) : seen p = true := by
  cases p with
  | reg i => simp [xb, atPos, stH, getL, both] at e
  | ex j => simp [xb, atPos, getL] at e
  | cell k j => cases k with
    | box s => simp [xb, atPos, stH, getL, both, cellsOf] at e
    | blk id => rfl
  | blk k => cases k with
    | box s => simp [xb, liveK, stH, getL] at e
    | blk id => rfl
theorem atPos_stH_seen {h : List Blk} {p : Pos} {q : D × Value} (e : atPos C (stH h) #[] w [] p = some q) : seen p = true := by
  cases p with
  | reg i => simp [atPos, stH, getL, both] at e
  | ex j => simp [atPos, getL] at e
  | cell k j => cases k with
    | box s => simp [atPos, stH, getL, both, cellsOf] at e
    | blk id => rfl
  | blk k => simp [atPos] at e

theorem noBox_le : CLe (fun _ => False) C (noBox C) := ⟨Le.refl _, Nat.le_refl _, fun _ _ => rfl, fun s h _ => h.elim⟩

theorem Rel.toH {ex : List (D × Value)} (R : Rel B C st a w ex) : HRel (noBox C) w st.h := by
  have hx : ∀ p n, xb (noBox C) (stH st.h) #[] w [] p = some n → xb C st a.tmps w ex p = some n := fun p n h => by
    rw [← (xb_stH (a := a) (ex := ex) (xb_stH_seen h)).1]; exact h
  refine { len := rfl, regs := by intro i d v h; simp [stH, getL] at h, exs := by intro i q h; simp [getL] at h, cells := ?_, al := by intro s; simp [noBox, boxed, stH, getL],
           seals := by intro s ps h; simp [stH, getL] at h, frzs := R.frzs, nh := R.nh, hb := ⟨Nat.le_refl _, fun _ _ => rfl⟩, tails := ?_, inj := fun p q n h1 h2 => R.inj p q n (hx p n h1) (hx q n h2), bound := ?_, empty := ?_, sub := R.sub,
           frm := ⟨rfl, rfl, rfl, Nat.le_refl _, fun _ _ _ => rfl, fun _ _ _ _ => rfl, Le.refl _⟩, defs := rfl, defr := by intro i q d h; simp [stH, getL] at h, maps := ?_ }
  · intro k ds j d h1 h2
    obtain ⟨id, rfl⟩ := stH_cells h1
    obtain ⟨h3, v, h4, h5, h6, h7⟩ := R.cells (.blk id) ds j d h1 h2
    exact ⟨h3, v, h4, h5, RepD.mono noBox_le d v (okArg_lpD h3) h6, h7⟩
  · intro p d v h
    have := (xb_stH (C := C) (st := st) (w := w) (a := a) (ex := ex) (atPos_stH_seen h)).2
    exact R.tails p d v (by rw [← this]; exact h)
  · intro p n h
    exact ⟨(R.bound p n (hx p n h)).1, .inr ⟨p, h⟩⟩
  · intro k h
    obtain ⟨id, rfl⟩ := stH_live h
    exact R.empty (.blk id) h
  · intro id es clock h
    obtain ⟨ms, h1, h2⟩ := R.maps id es clock h
    exact ⟨ms, h1, h2.mono noBox_le⟩

/-- the caller's context behind a call -/
def joinC (C C' : Ctx) : Ctx := { β := fun | .box s => C.β (.box s) | .blk id => C'.β (.blk id), al := C.al, nh := C'.nh, Φ := C'.Φ }

theorem Rel.back {h' : List Blk} {q : D × Value} (R : Rel B C st a w [])
    (R' : Rel (baseOf (noBox C) w st.h) C' (stH h') actE w' [q]) (hq : okArg q.1 = true) : Rel B (joinC C C') { st with h := h' } a w' [q] := by
  obtain ⟨hl, hβ⟩ : st.h.length ≤ h'.length ∧ ∀ id, id < st.h.length → C'.β (.blk id) = C.β (.blk id) := R'.hb
  have hnh := R.nh
  have hnh' : C'.nh = h'.length := R'.nh
  have f := R'.frm
  have hle : Le C.Φ C'.Φ := f.Φle
  have c1 : CLe (fun _ => True) C (joinC C C') := ⟨hle, by show C.nh ≤ C'.nh; omega, fun id h => hβ id (by omega), fun s _ h => ⟨h, rfl⟩⟩
  have c2 : CLe (fun _ => False) C' (joinC C C') := ⟨Le.refl _, Nat.le_refl _, fun _ _ => rfl, fun s h _ => h.elim⟩
  -- what the callee cannot have touched
  have keep : ∀ p n, seen p = false → xb C st a.tmps w [] p = some n → n < w.heap.size ∧ ¬ (baseOf (noBox C) w st.h).X n := by
    intro p n hp h
    refine ⟨(R.bound p n h).1, ?_⟩
    rintro ⟨p', h'⟩
    have hs := xb_stH_seen h'
    have e : xb C st a.tmps w [] p' = some n := by rw [← (xb_stH (a := a) (ex := []) hs).1]; exact h'
    have := R.inj p p' n h e
    subst this
    rw [hp] at hs; cases hs
  have heap : ∀ p n, seen p = false → xb C st a.tmps w [] p = some n → w'.heap[n]? = w.heap[n]? ∧ ∀ o, C'.Φ n o = C.Φ n o := by
    intro p n hp h
    obtain ⟨h1, h2⟩ := keep p n hp h
    exact ⟨f.block n h1 h2, f.Φblock n h1 h2⟩
  have hcb : ∀ s, cellsOf { st with h := h' } (.box s) = cellsOf st (.box s) := fun _ => rfl
  have hlb : ∀ s, liveK { st with h := h' } (.box s) = liveK st (.box s) := fun _ => rfl
  have hci : ∀ id, cellsOf { st with h := h' } (.blk id) = cellsOf (stH h') (.blk id) := fun _ => rfl
  have hli : ∀ id, liveK { st with h := h' } (.blk id) = liveK (stH h') (.blk id) := fun _ => rfl
  have boxheap : ∀ s ds, cellsOf st (.box s) = some ds → w'.heap[C.β (.box s)]? = w.heap[C.β (.box s)]? := fun s ds h =>
    (heap (.blk (.box s)) _ rfl (by simp [xb, liveK_of_cells h])).1
  -- positions
  have atB : ∀ s j, atPos (joinC C C') { st with h := h' } a.tmps w' [q] (.cell (.box s) j) = atPos C st a.tmps w [] (.cell (.box s) j) := by
    intro s j
    simp only [atPos, hcb, joinC]
    cases hcs : cellsOf st (.box s) with
    | none => rfl
    | some ds => rw [cell?_of_heap (boxheap s ds hcs)]
  have xbS : ∀ p n, xb (joinC C C') { st with h := h' } a.tmps w' [q] p = some n →
      ((∃ i, p = .reg i) ∨ (∃ s j, p = .cell (.box s) j) ∨ (∃ s, p = .blk (.box s))) ∧ xb C st a.tmps w [] p = some n ∨
      (seen p = true ∨ ∃ j, p = .ex j) ∧ xb C' (stH h') #[] w' [q] p = some n := by
    intro p n h
    cases p with
    | reg i => exact .inl ⟨.inl ⟨i, rfl⟩, h⟩
    | ex j => exact .inr ⟨.inr ⟨j, rfl⟩, h⟩
    | cell k j => cases k with
      | box s => exact .inl ⟨.inr (.inl ⟨s, j, rfl⟩), by simp only [xb, atB] at h ⊢; exact h⟩
      | blk id => exact .inr ⟨.inl rfl, h⟩
    | blk k => cases k with
      | box s => exact .inl ⟨.inr (.inr ⟨s, rfl⟩), h⟩
      | blk id => exact .inr ⟨.inl rfl, h⟩
  have unseen : ∀ {p : Pos}, ((∃ i, p = .reg i) ∨ (∃ s j, p = .cell (.box s) j) ∨ (∃ s, p = .blk (.box s))) → seen p = false := by
    rintro p (⟨i, rfl⟩ | ⟨s, j, rfl⟩ | ⟨s, rfl⟩) <;> rfl
  have fsz : w.heap.size ≤ w'.heap.size := f.size
  refine { len := R.len, regs := fun i d v h1 h2 => RepD.mono c1 d v (lpD_all (fun _ => trivial) d) (R.regs i d v h1 h2), exs := ?_, cells := ?_, al := R.al,
           seals := fun s ps h => RepCells.mono hle _ _ _ (R.seals s ps h), frzs := R'.frzs, nh := hnh', hb := ⟨Nat.le_trans R.hb.1 hl, fun id h => by show C'.β (.blk id) = _; rw [hβ id (Nat.lt_of_lt_of_le h R.hb.1)]; exact R.hb.2 id h⟩, tails := ?_, inj := ?_, bound := ?_, empty := ?_, sub := R'.sub, frm := ?_,
           defs := R.defs, defr := fun i q d h1 h2 => (R.defr i q d h1 h2).mono c1, maps := ?_ }
  · intro i q' h
    cases i with
    | zero => simp only [getL, Option.some.injEq] at h; subst h; exact RepD.mono c2 _ _ (okArg_lpD hq) (R'.exs 0 q rfl)
    | succ i => simp [getL] at h
  · intro k ds j d h1 h2
    cases k with
    | box s =>
      obtain ⟨h3, v, h4, h5, h6, h7⟩ := R.cells (.box s) ds j d h1 h2
      have hb := boxheap s ds h1
      exact ⟨h3, v, by show w'.cell? ⟨C.β (.box s), j, none⟩ = _; rw [cell?_of_heap hb]; exact h4, h5, RepD.mono c1 d v (lpD_all (fun _ => trivial) d) h6,
        by show w'.frozen? ⟨C.β (.box s), j, none⟩ = _; rw [frozen?_of_heap hb]; exact h7⟩
    | blk id =>
      obtain ⟨h3, v, h4, h5, h6, h7⟩ := R'.cells (.blk id) ds j d h1 h2
      exact ⟨h3, v, h4, h5, RepD.mono c2 d v (okArg_lpD h3) h6, h7⟩
  · intro p d v h
    have old : seen p = false → atPos C st a.tmps w [] p = some (d, v) → TailOK (joinC C C') w' d v := by
      intro hp h
      have ht := R.tails p d v h
      unfold TailOK at ht ⊢
      split
      · rename_i wd rows ad n cap h
        simp only [] at ht
        intro hn
        obtain ⟨h1, h2⟩ := ht hn
        have hx : xb C st a.tmps w [] p = some ad.block := by
          cases p with
          | blk k => simp [atPos] at h
          | reg i => simp [xb, h, tailBlk, hn]
          | ex i => simp [xb, h, tailBlk, hn]
          | cell k i => simp [xb, h, tailBlk, hn]
        obtain ⟨e1, e2⟩ := heap p _ hp hx
        refine ⟨fun o ho => ?_, fun o ho1 ho2 => ?_⟩
        · show C'.Φ _ _ = none
          rw [e2]; exact h1 o ho
        · rw [cell?_of_heap e1, frozen?_of_heap e1]; exact h2 o ho1 ho2
      · trivial
    cases p with
    | reg i => exact old rfl h
    | ex j => exact R'.tails (.ex j) d v h
    | cell k j => cases k with
      | box s => rw [atB] at h; exact old rfl h
      | blk id => exact R'.tails (.cell (.blk id) j) d v h
    | blk k => simp [atPos] at h
  · intro p q' n h1 h2
    rcases xbS p n h1 with ⟨hp, e1⟩ | ⟨hp, e1⟩
    · rcases xbS q' n h2 with ⟨hq', e2⟩ | ⟨hq', e2⟩
      · exact R.inj p q' n e1 e2
      · obtain ⟨b1, b2⟩ := keep p n (unseen hp) e1
        rcases (R'.bound q' n e2).2 with h | h
        · have h : w.heap.size ≤ n := h; omega
        · exact absurd h b2
    · rcases xbS q' n h2 with ⟨hq', e2⟩ | ⟨hq', e2⟩
      · obtain ⟨b1, b2⟩ := keep q' n (unseen hq') e2
        rcases (R'.bound p n e1).2 with h | h
        · have h : w.heap.size ≤ n := h; omega
        · exact absurd h b2
      · exact R'.inj p q' n e1 e2
  · intro p n h
    rcases xbS p n h with ⟨hp, e1⟩ | ⟨hp, e1⟩
    · have := R.bound p n e1
      exact ⟨by omega, this.2⟩
    · have := R'.bound p n e1
      refine ⟨this.1, ?_⟩
      rcases this.2 with h | ⟨p', h⟩
      · have h : w.heap.size ≤ n := h
        have := R.frm.size
        left; omega
      · have e : xb C st a.tmps w [] p' = some n := by rw [← (xb_stH (a := a) (ex := []) (xb_stH_seen h)).1]; exact h
        exact (R.bound p' n e).2
  · intro k h o
    cases k with
    | box s =>
      show C'.Φ (C.β (.box s)) o = none
      have h' : liveK st (.box s) = true := h
      rw [(heap (.blk (.box s)) (C.β (.box s)) rfl (by simp only [xb]; rw [if_pos h'])).2]
      exact R.empty (.box s) h o
    | blk id => exact R'.empty (.blk id) h o
  · refine ⟨f.os.trans R.frm.os, f.tape.trans R.frm.tape, f.output.trans R.frm.output, Nat.le_trans R.frm.size fsz, fun b hb hX => ?_, fun b hb hX o => ?_, R.frm.Φle.trans hle⟩
    · have hb' : b < w.heap.size := Nat.lt_of_lt_of_le hb R.frm.size
      have hn : ¬ (baseOf (noBox C) w st.h).X b := by
        rintro ⟨p', h⟩
        have e : xb C st a.tmps w [] p' = some b := by rw [← (xb_stH (a := a) (ex := []) (xb_stH_seen h)).1]; exact h
        rcases (R.bound p' b e).2 with h | h
        · omega
        · exact hX h
      rw [f.block b hb' hn]; exact R.frm.block b hb hX
    · have hb' : b < w.heap.size := Nat.lt_of_lt_of_le hb R.frm.size
      have hn : ¬ (baseOf (noBox C) w st.h).X b := by
        rintro ⟨p', h⟩
        have e : xb C st a.tmps w [] p' = some b := by rw [← (xb_stH (a := a) (ex := []) (xb_stH_seen h)).1]; exact h
        rcases (R.bound p' b e).2 with h | h
        · omega
        · exact hX h
      show C'.Φ b o = _
      rw [f.Φblock b hb' hn]; exact R.frm.Φblock b hb hX o
  · intro id es clock h
    obtain ⟨ms, h1, h2⟩ := R'.maps id es clock h
    exact ⟨ms, h1, h2.mono c2⟩
end
end Go.AE
end

section
namespace Go.AE
open Go
set_option linter.unusedSimpArgs false
set_option linter.unusedVariables false
section
variable {T : Program} {B : Base} {C : Ctx} {st : St} {a : Act} {w w' : World} {o : Oper}
variable {CALL : FuncId → List D → List Blk → (Res → List Blk → Prop) → Prop} {DFR : List (FuncId × List D) → Ex → List Blk → (Ex → List Blk → Prop) → Prop} {esc ap : List Tmp}
  {k : D → St → Prop} {kp : P → St → Prop}

theorem scalar_fall (R : Rel B C st a w []) (hs : ∀ cs b, o.op ≠ .select cs b) (h : CD (AP CALL DFR) (fun d => k d st) (scalarOp T st.r o)) : OpOK T B o a w k kp := by
  unfold CD at h
  split at h
  · rename_i d hd
    obtain ⟨v, h1, h2⟩ := scalarOp_ok R hs hd
    exact ok_value h1 h h2
  · exact h.elim

theorem struct_fall (R : Rel B C st a w []) (hs : ∀ cs b, o.op ≠ .select cs b) (h : match structOp T st.r o with | some d => k d st | none => CD (AP CALL DFR) (fun d => k d st) (scalarOp T st.r o)) :
    OpOK T B o a w k kp := by
  split at h
  · rename_i d hd
    obtain ⟨v, h1, h2, h3⟩ := structOp_ok R hd
    exact ok_value h1 h (R.push h3 h2)
  · exact scalar_fall R hs h

theorem load_ok {t : TypeId} {x : Operand} (R : Rel B C st a w []) (hop : o.op = .load t x) (h : eop T (AP CALL DFR) esc ap st o k kp) : OpOK T B o a w k kp := by
  unfold eop at h
  rw [hop] at h
  simp only [] at h
  split at h
  · exact h.elim
  rename_i hun
  obtain ⟨td, hu⟩ := underlying_some hun
  have hexec : ∀ v, (Instr.loadAt t (a.eval x)).run T w = .ok v w → (execOp a.eval o).run T w = .ok (.value v) w := by
    intro v hv
    unfold execOp; rw [hop]; simp [hv]
  have hx := R.opd x
  split at h
  · rename_i w0 rows i off hd
    rw [hd] at hx
    simp only [RepD] at hx
    obtain ⟨row, hrow, h⟩ := prow_elim h
    obtain ⟨e1, e2⟩ := loadEp_ok (T := T) R hu hx hrow
    split at h
    · rename_i ha
      split at h
      · rename_i hl
        obtain ⟨v, h1, h2⟩ := e1 _ ha rfl hl
        exact ok_value (hexec v h1) h (R.push rfl (by simp only [RepD]; exact h2))
      · exact h.elim
    · rename_i ha
      unfold optR at h
      split at h
      · rename_i q hq
        obtain ⟨v, h1, h2⟩ := e2 q (by simpa using ha) hq
        exact ok_value (hexec v h1) h (R.push rfl (by simp only [RepD]; exact h2))
      · exact h.elim
  · rename_i ad hne
    have plainLoad : optR (AP CALL DFR) (fun d => k d st) (loadD T st t (opdD st.r x)) → OpOK T B o a w k kp := fun h => by
      unfold optR at h
      split at h
      · rename_i d hd
        obtain ⟨v, h1, h2, h3⟩ := loadD_ok (T := T) R hu hx hd
        exact ok_value (hexec v h1) h (R.push h3 h2)
      · exact h.elim
    split at h
    case isFalse => exact plainLoad h
    rename_i hcond
    simp only [Bool.and_eq_true, Bool.not_eq_true'] at hcond
    split at h
    case h_2 => exact plainLoad h
    rename_i d st' htk
    have one : ∀ (kk : K) (ds : List D) (off wd : Nat) (rows : List (List P)), cellsOf st kk = some ds → getL ds off = some (.own wd rows) → a.eval x = .pointer (some ⟨C.β kk, off, none⟩) →
        d = .own wd rows → st' = setC st (setL ds off (.p (.sl wd rows))) kk → OpOK T B o a w k kp := by
      intro kk ds off wd rows hk hd hpv e1 e2
      subst e1 e2
      obtain ⟨v, hv, R'⟩ := R.takeCell hk hd
      refine ok_value (hexec v ?_) h R'
      rw [hpv]
      simp only [Instr.loadAt, Instr.sureAddr, Sem.run_bind, Sem.run_pure, Result.andThen_ok]
      exact run_loadOne hu hcond.2 hv
    unfold takeD at htk
    split at htk
    · rename_i s off hp
      rw [hp] at hx
      simp only [RepD] at hx
      split at htk
      · rename_i ds hds
        split at htk
        · rename_i wd rows hown
          simp only [Option.some.injEq, Prod.mk.injEq] at htk
          exact one (.box s) ds off wd rows (by simp [cellsOf, hds]) hown hx.2 htk.1.symm htk.2.symm
        · simp at htk
      · simp at htk
    · rename_i id off hp
      rw [hp] at hx
      simp only [RepD] at hx
      split at htk
      · rename_i ds hds
        split at htk
        · rename_i wd rows hown
          simp only [Option.some.injEq, Prod.mk.injEq] at htk
          exact one (.blk id) ds off wd rows (by simp [cellsOf, hds]) hown hx.2 htk.1.symm htk.2.symm
        · simp at htk
      · simp at htk
    · simp at htk

theorem indexAddr_ok {t : TypeId} {x i : Operand} (R : Rel B C st a w []) (hop : o.op = .indexAddr t x i) (h : eop T (AP CALL DFR) esc ap st o k kp) : OpOK T B o a w k kp := by
  unfold eop at h
  rw [hop] at h
  simp only [] at h
  have hexec : ∀ v, (Instr.indexAt t (a.eval x) (a.eval i)).run T w = .ok v w → (execOp a.eval o).run T w = .ok (.value v) w := by
    intro v hv
    unfold execOp; rw [hop]; simp [hv]
  split at h
  · rename_i e w0 rows n he hs hi
    split at h
    case isFalse => exact h.elim
    rename_i hw
    obtain ⟨⟨h1, h2⟩, h3⟩ := preq_elim h
    obtain ⟨kk, hv⟩ := intOf_rep hi (R.opd i)
    have hr := slOf_rep hs (R.opd x)
    simp only [RepP] at hr
    obtain ⟨b, of, cap, hx, hle, hrows⟩ := hr
    obtain ⟨ie, hie⟩ := elemT_info he
    refine ok_value (v := .pointer (some ⟨b, of + n.toNat * sizeT T e, none⟩)) (hexec _ ?_) h3 (R.push rfl ?_)
    · rw [hx, hv]
      simp [Instr.indexAt, asIntOf, run_underlying (elemT_spec he), run_sizeT hie, Result.andThen, Addr.add_lit, h1, h2]
    · simp only [RepD, RepP]
      exact ⟨b, of, by rw [← hw]; simp, hrows⟩
  · split at h
    · rename_i e wd id lo n ii hu hd hi
      split at h
      case isFalse => exact h.elim
      rename_i hw
      obtain ⟨ie, hie⟩ := Option.isSome_iff_exists.1 hw.2
      obtain ⟨⟨h1, h2⟩, h3⟩ := preq_elim h
      obtain ⟨kk, hv⟩ := intOf_rep hi (R.opd i)
      have hr := R.opd x
      rw [hd] at hr
      simp only [RepD] at hr
      obtain ⟨hid, cap, hx, hcap⟩ := hr
      refine ok_value (v := .pointer (some ⟨C.β (.blk id), (lo + ii.toNat) * wd, none⟩)) (hexec _ ?_) h3 (R.push rfl (by simp only [RepD]; exact ⟨hid, trivial⟩))
      rw [hx, hv]
      have : (lo + ii.toNat) * wd = lo * wd + ii.toNat * sizeT T e := by rw [Nat.add_mul, hw.1]
      rw [this]
      simp [Instr.indexAt, asIntOf, run_underlying hu, run_sizeT hie, Result.andThen, Addr.add_lit, h1, h2]
    · rename_i n e s off ii hu hd hi
      split at h
      case isFalse => exact h.elim
      rename_i hinf
      obtain ⟨ie, hie⟩ := Option.isSome_iff_exists.1 hinf
      obtain ⟨⟨h1, h2⟩, h3⟩ := preq_elim h
      obtain ⟨kk, hv⟩ := intOf_rep hi (R.opd i)
      have hr := R.opd x
      rw [hd] at hr
      simp only [RepD] at hr
      refine ok_value (v := .pointer (some ⟨C.β (.box s), off + ii.toNat * sizeT T e, none⟩)) (hexec _ ?_) h3 (R.push rfl (by simp only [RepD]; exact ⟨hr.1, trivial⟩))
      rw [hr.2, hv]
      simp [Instr.indexAt, asIntOf, run_underlying hu, run_sizeT hie, Instr.sureAddr, Result.andThen, Addr.add_lit, h1, h2]
    · exact h.elim

theorem bound_run {x : Operand} {n : Int} {y : Nat} {code : BoundsCode} {v : Value} (h : ∃ k, v = .int k n) (h0 : 0 ≤ n) (h1 : n ≤ y) : (Instr.sliceBound v y code).run T w = .ok n.toNat w := by
  obtain ⟨k, rfl⟩ := h
  simp [Instr.sliceBound, asIntOf, Result.andThen, h0, h1]

theorem rows_cut {Φ : Nat → Nat → Option Value} {wd b of l n : Nat} {rows : List (List P)} (h : RepRows Φ wd b rows of) : RepRows Φ wd b ((rows.drop l).take n) (of + l * wd) := by
  refine RepRows.mk fun i r hi => ?_
  rw [getL_take] at hi
  split at hi
  · rw [getL_drop] at hi
    obtain ⟨h1, h2⟩ := h.get hi
    refine ⟨h1, ?_⟩
    rw [show of + l * wd + i * wd = of + (l + i) * wd by rw [Nat.add_mul]; omega]; exact h2
  · simp at hi

theorem slice_ok {t : TypeId} {x : Operand} {lo hi mx : Option Operand} (R : Rel B C st a w []) (hop : o.op = .slice t x lo hi mx) (h : eop T (AP CALL DFR) esc ap st o k kp) : OpOK T B o a w k kp := by
  unfold eop at h
  rw [hop] at h
  simp only [] at h
  split at h
  case h_2 => exact scalar_fall R (by intro cs b; rw [hop]; simp) h
  rename_i e w0 rows he hs
  split at h
  · exact h.elim
  rename_i hw
  have hw' : w0 = sizeT T e := by simpa using hw
  split at h
  case h_2 => exact h.elim
  rename_i l hh hl hhi
  obtain ⟨⟨h0, h1, h2⟩, h⟩ := preq_elim h
  have hr := slOf_rep hs (R.opd x)
  simp only [RepP] at hr
  obtain ⟨b, of, cap, hx, hle, hrows⟩ := hr
  obtain ⟨ie, hie⟩ := elemT_info he
  -- the bounds
  have hlo : ∀ y : Nat, l ≤ y → ∀ code, (match lo.map a.eval with | some v => Instr.sliceBound v y code | none => pure 0 : Sem Nat).run T w = .ok l.toNat w := by
    intro y hy code
    cases lo with
    | none => simp only [Option.some.injEq] at hl; subst hl; rfl
    | some q => exact bound_run (x := q) (intOf_rep hl (R.opd q)) h0 hy
  have hexec : ∀ m : Nat, (Instr.sliceBounds true rows.length cap (lo.map a.eval) (hi.map a.eval) (mx.map a.eval)).run T w = .ok (l.toNat, hh.toNat, m) w →
      (execOp a.eval o).run T w = .ok (.value (.slice (if m = l.toNat then some ⟨b, of, none⟩ else some ⟨b, of + l.toNat * w0, none⟩) (hh.toNat - l.toNat) (m - l.toNat))) w := by
    intro m hm
    unfold execOp; rw [hop]
    simp only [Sem.run_bind, Instr.sliceAt, run_underlying (elemT_spec he), Result.andThen_ok]
    simp only [Instr.slice, Sem.run_bind, run_underlying (elemT_spec he), Result.andThen_ok, hx, hm, run_sizeT hie, Sem.run_pure]
    rw [← hw']
    split <;> simp [Addr.add_lit]
  have hnat : (hh - l).toNat = hh.toNat - l.toNat := by omega
  have hrl : ((rows.drop l.toNat).take (hh - l).toNat).length = hh.toNat - l.toNat := by simp; omega
  have rep : ∀ m : Nat, hh.toNat ≤ m → RepP C.Φ (.sl w0 ((rows.drop l.toNat).take (hh - l).toNat)) (.slice (if m = l.toNat then some ⟨b, of, none⟩ else some ⟨b, of + l.toNat * w0, none⟩) (hh.toNat - l.toNat) (m - l.toNat)) := by
    intro m hm
    simp only [RepP]
    split
    · rename_i e1
      have e0 : hh.toNat - l.toNat = 0 := by omega
      refine ⟨b, of, m - l.toNat, by rw [hrl], by rw [hrl]; omega, ?_⟩
      have : (rows.drop l.toNat).take (hh - l).toNat = [] := by rw [hnat, e0]; simp
      rw [this]; simp [RepRows]
    · exact ⟨b, of + l.toNat * w0, m - l.toNat, by rw [hrl], by rw [hrl]; omega, rows_cut hrows⟩
  split at h
  · -- no third bound
    have hb : (Instr.sliceBounds true rows.length cap (lo.map a.eval) (hi.map a.eval) ((none : Option Operand).map a.eval)).run T w = .ok (l.toNat, hh.toNat, cap) w := by
      simp only [Instr.sliceBounds, Option.map_none]
      cases hi with
      | none =>
        simp only [Option.some.injEq] at hhi; subst hhi
        have := hlo rows.length (by omega) .sliceB
        simp only [Option.map_none, Sem.run_bind, Sem.run_pure, Result.andThen_ok, Option.isSome_none, Bool.false_eq_true, if_false] at this ⊢
        cases lo with
        | none => simp at this ⊢; exact this
        | some q => simp only [Option.map_some] at this ⊢; simp [this, Result.andThen]
      | some q =>
        have hq := bound_run (T := T) (w := w) (x := q) (y := cap) (code := .sliceAcap) (intOf_rep hhi (R.opd q)) (by omega) (by omega)
        have := hlo hh.toNat (by omega) .sliceB
        simp only [Option.map_some, Sem.run_bind, Sem.run_pure, Result.andThen_ok, if_true, hq, Option.isSome_none, Bool.false_eq_true, if_false] at this ⊢
        cases lo with
        | none => simp at this ⊢; exact this
        | some q => simp only [Option.map_some] at this ⊢; simp [this, Result.andThen]
    exact ok_value (hexec cap hb) h (R.push rfl (by simp only [RepD]; exact rep cap (by omega)))
  · rename_i m hold0
    split at h
    · exact h.elim
    rename_i hhn
    split at h
    case h_2 => exact h.elim
    rename_i mm hmm
    obtain ⟨hme, h⟩ := preq_elim h
    subst hme
    have hb : (Instr.sliceBounds true rows.length cap (lo.map a.eval) (hi.map a.eval) ((some m).map a.eval)).run T w = .ok (l.toNat, mm.toNat, mm.toNat) w := by
      have hq0 := bound_run (T := T) (w := w) (x := m) (y := cap) (code := .slice3Acap) (intOf_rep hmm (R.opd m)) (by omega) (by omega)
      simp only [Instr.sliceBounds, Option.map_some]
      cases hi with
      | none => simp at hhn
      | some q =>
        have hq := bound_run (T := T) (w := w) (x := q) (y := mm.toNat) (code := .slice3B) (intOf_rep hhi (R.opd q)) (by omega) (by omega)
        have := hlo mm.toNat (by omega) .slice3C
        simp only [Option.map_some, Sem.run_bind, Sem.run_pure, Result.andThen_ok, if_true, hq, hq0, Option.isSome_some] at this ⊢
        cases lo with
        | none => simp at this ⊢; exact this
        | some q => simp only [Option.map_some] at this ⊢; simp [this, Result.andThen]
    refine ok_value (hexec _ hb) h (R.pushT ?_ (by simp only [RepD]; exact rep _ (Nat.le_refl _)))
    by_cases e1 : mm.toNat = l.toNat
    · simp [tailBlk, e1]
    · simp [tailBlk, e1]
end
end Go.AE
end

section
namespace Go.AE
open Go
set_option linter.unusedSimpArgs false
set_option linter.unusedVariables false
section
variable {T : Program} {B : Base} {C : Ctx} {st : St} {a : Act} {w w' : World} {o : Oper}
variable {CALL : FuncId → List D → List Blk → (Res → List Blk → Prop) → Prop} {DFR : List (FuncId × List D) → Ex → List Blk → (Ex → List Blk → Prop) → Prop} {esc ap : List Tmp}
  {k : D → St → Prop} {kp : P → St → Prop}

theorem convT_one {src dst : TypeId} (h : convT T src dst = 1) : ∃ e, T.underlying src = some (.slice e) ∧ T.underlying dst = some .string ∧ T.underlying e = some (.int .u8) := by
  unfold convT at h
  split at h
  · rename_i e h1 h2
    split at h
    · rename_i h3; exact ⟨e, h1, h2, h3⟩
    · simp at h
  · split at h <;> simp at h
  · simp at h
theorem convT_two {src dst : TypeId} (h : convT T src dst = 2) : ∃ e, T.underlying src = some .string ∧ T.underlying dst = some (.slice e) ∧ T.underlying e = some (.int .u8) := by
  unfold convT at h
  split at h
  · split at h <;> simp at h
  · rename_i e h1 h2
    split at h
    · rename_i h3; exact ⟨e, h1, h2, h3⟩
    · simp at h
  · simp at h

theorem bytesOf_spec : ∀ {rows : List (List P)} {bs : List UInt8}, bytesOf rows = some bs →
    ∃ ns : List Int, bs = ns.map (fun n => UInt8.ofNat n.toNat) ∧ ns.length = rows.length ∧ ∀ i row, getL rows i = some row → ∃ n, ns[i]? = some n ∧ row = [.sc (.int .u8 n)]
  | [], bs, h => by simp only [bytesOf, Option.some.injEq] at h; subst h; exact ⟨[], rfl, rfl, by intro i row h; simp [getL] at h⟩
  | row :: rows, bs, h => by
    unfold bytesOf at h
    split at h
    · rename_i e; simp at e
    · rename_i n r e
      simp only [List.cons.injEq] at e
      obtain ⟨rfl, rfl⟩ := e
      rw [Option.map_eq_some_iff] at h
      obtain ⟨bs', h1, rfl⟩ := h
      obtain ⟨ns, rfl, h2, h3⟩ := bytesOf_spec h1
      refine ⟨n :: ns, rfl, by simp [h2], fun i row' hi => ?_⟩
      cases i with
      | zero => simp only [getL, Option.some.injEq] at hi; exact ⟨n, by simp, hi.symm⟩
      | succ i => simpa using h3 i row' (by simpa [getL] using hi)
    · simp at h

theorem foldl_bytes : ∀ (ns : List Int) (s : ByteArray), ns.foldl (fun r n => r.push (UInt8.ofNat n.toNat)) s = ⟨(s.data.toList ++ ns.map (fun n => UInt8.ofNat n.toNat)).toArray⟩
  | [], s => by simp
  | n :: ns, s => by
    rw [List.foldl_cons, foldl_bytes ns]
    simp [ByteArray.push]

theorem convert_ok {src dst : TypeId} {x : Operand} (R : Rel B C st a w []) (hop : o.op = .convert src dst x) (h : eop T (AP CALL DFR) esc ap st o k kp) : OpOK T B o a w k kp := by
  unfold eop at h
  rw [hop] at h
  simp only [] at h
  have hs : ∀ cs b, o.op ≠ .select cs b := by intro cs b; rw [hop]; simp
  have hexec : ∀ v w2, (convert src dst (a.eval x)).run T w = .ok v w2 → (execOp a.eval o).run T w = .ok (.value v) w2 := by
    intro v w2 hv
    unfold execOp; rw [hop]; simp [hv]
  split at h
  · rename_i d hc
    split at h
    · rename_i w0 rows hsl
      unfold optR at h
      split at h
      · rename_i bs hbs
        obtain ⟨e, h1, h2, h3⟩ := convT_one hc
        have hr := slOf_rep hsl (R.opd x)
        simp only [RepP] at hr
        obtain ⟨b, of, cap, hx, hle, hrows⟩ := hr
        obtain ⟨ns, rfl, hn1, hn2⟩ := bytesOf_spec hbs
        obtain ⟨vs, v1, v2, v3⟩ := rows_cells hrows R.sub
        have hvs : vs = ns.map (Value.int .u8) := by
          apply List.ext_getElem?
          intro j
          by_cases hj : j < rows.length
          · obtain ⟨row, hrow⟩ := getL_some hj
            obtain ⟨hw1, hc1⟩ := v3 j row hrow
            obtain ⟨n, hn3, rfl⟩ := hn2 j row hrow
            obtain ⟨v, hv, hrv⟩ := hc1 0 (.sc (.int .u8 n)) rfl
            simp only [List.length_cons, List.length_nil] at hw1
            rw [← hw1, Nat.zero_add, Nat.mul_one, Nat.add_zero] at hv
            simp only [RepP] at hrv
            rw [hv, hrv.1, List.getElem?_map, hn3]; rfl
          · have hwd : vs.length ≤ j := by
              rw [v1]
              rcases Nat.eq_zero_or_pos rows.length with e0 | hp
              · rw [e0]; simp
              · obtain ⟨row, hrow⟩ := getL_some hp
                obtain ⟨hw1, _⟩ := v3 0 row hrow
                obtain ⟨n, _, rfl⟩ := hn2 0 row hrow
                simp only [List.length_cons, List.length_nil] at hw1
                rw [← hw1]; omega
            rw [List.getElem?_eq_none hwd, List.getElem?_eq_none (by simp; omega)]
        have hl : (loadCells ⟨b, of, none⟩ rows.length).run T w = .ok (ns.map (Value.int .u8)).toArray w := by
          have := run_loadCells_list (P := T) w ⟨b, of, none⟩ vs (fun j v hj => by rw [Addr.add_lit]; exact (v2 j v hj).1)
          rw [hvs] at this
          simpa [hn1] using this
        have hb := run_bytesToString (P := T) w ⟨b, of, none⟩ rows.length cap ns hl
        refine ok_value (hexec _ _ ?_) h (R.push rfl (by simp [RepD, RepP, plain]; rfl))
        rw [hx]
        simp only [convert, Sem.run_bind, run_underlying h1, run_underlying h2, run_underlying h3, Result.andThen_ok, hb, foldl_bytes]
        simp
      · exact h.elim
    · exact scalar_fall R hs h
  · rename_i s hc hd
    obtain ⟨e, h1, h2, h3⟩ := convT_two hc
    have hx := R.opd x
    rw [hd] at hx
    simp only [RepD, RepP] at hx
    have hrun := Lib.run_convert_string_bytes (P := T) w src dst e s h1 h2 h3
    have hrl : (rowsOfBytes s.data.toList).length = s.size := by simp [rowsOfBytes]
    have hcs : (Lib.bytesCells w e s).size = grownCap w s.size 0 e := by
      have := grownCap_ge w s.size 0 e
      simp [Lib.bytesCells]
      omega
    have hge := grownCap_ge w s.size 0 e
    have hcell : ∀ j, (Lib.bytesWorld w e s).cell? ⟨w.heap.size, j, none⟩ = (Lib.bytesCells w e s)[j]? := by
      intro j
      simp [World.cell?, Lib.bytesWorld_at_new]
    obtain ⟨C', _, R'⟩ := R.newOwn (w' := Lib.bytesWorld w e s) (wd := 1) (cap := grownCap w s.size 0 e) (rows := rowsOfBytes s.data.toList) (vs := s.data.toList.map (fun b => Value.int .u8 b.toNat))
      (fun b hb => Lib.bytesWorld_at_old w e s b hb) (Lib.bytesWorld_size w e s) rfl rfl rfl (by simp [rowsOfBytes]) (by
        intro v hv
        simp only [List.mem_map] at hv
        obtain ⟨q, _, rfl⟩ := hv; rfl) (fun j v hj => by
        rw [hcell]
        have hlt : j < s.size := by have := (List.getElem?_eq_some_iff.1 hj).1; simpa using this
        unfold Lib.bytesCells
        rw [Array.getElem?_append_left (by simpa using hlt)]
        simpa using hj) (by rw [hrl]; exact hge) (fun o' h1 h2 => by
        rw [hcell]
        simp only [Nat.mul_one] at h2
        refine ⟨by rw [Array.getElem?_eq_getElem (by omega)]; rfl, ?_⟩
        simp only [World.frozen?, Lib.bytesWorld_at_new]
        have : ¬ ((Lib.bytesCells w e s).size ≤ o') := by omega
        simp [this]) (fun i row hi => by
        simp only [rowsOfBytes, getL_map, Option.map_eq_some_iff] at hi
        obtain ⟨q, hq, rfl⟩ := hi
        refine ⟨rfl, fun j p hp => ?_⟩
        cases j with
        | zero =>
          simp only [getL, Option.some.injEq] at hp; subst hp
          refine ⟨.int .u8 q.toNat, ?_, by simp [RepP, plain]⟩
          rw [getL_eq] at hq
          simp only [Nat.mul_one, Nat.add_zero, List.getElem?_map]
          rw [hq]; rfl
        | succ j => simp [getL] at hp)
    refine ok_value (C' := C') (hexec _ _ ?_) h R'
    rw [hx.1, hrun, hrl]
  · exact scalar_fall R hs h

theorem flatten_replicate {α : Type} (l : List α) : ∀ (n j : Nat), j < n * l.length → (List.replicate n l).flatten[j]? = l[j % l.length]?
  | 0, j, h => by simp at h
  | n + 1, j, h => by
    rw [List.replicate_succ, List.flatten_cons]
    by_cases hj : j < l.length
    · rw [List.getElem?_append_left hj, Nat.mod_eq_of_lt hj]
    · rw [List.getElem?_append_right (by omega), flatten_replicate l n (j - l.length) (by rw [Nat.succ_mul] at h; omega)]
      congr 1
      conv => rhs; rw [← Nat.sub_add_cancel (Nat.le_of_not_lt hj)]
      rw [Nat.add_mod_right]
theorem length_flatten_replicate {α : Type} (l : List α) (n : Nat) : (List.replicate n l).flatten.length = n * l.length := by
  induction n with
  | zero => simp
  | succ n ih => rw [List.replicate_succ, List.flatten_cons, List.length_append, ih, Nat.succ_mul]; omega


theorem down_cells_loose (d : D) (h : okCells (downD d) = true) : ∀ x ∈ (downD d).cells, loose x = true := by
  intro x hx
  cases d with
  | agg ds =>
    simp only [downD, D.cells, List.mem_map] at hx
    obtain ⟨y, _, rfl⟩ := hx
    exact loose_down1 y
  | p q =>
    cases q with
    | agg ps => simp only [downD, D.cells, List.mem_map] at hx; obtain ⟨_, _, rfl⟩ := hx; rfl
    | _ => simp only [downD, D.cells, List.mem_singleton] at hx; subst hx; rfl
  | _ => simp only [downD, D.cells, List.mem_singleton] at hx; subst hx; rfl

theorem fillD_loose (place : Nat → Option (Nat × Nat)) : ∀ {l : List (Nat × D)} {z cs : List D}, fillD place z l = some cs → (∀ i x, getL z i = some x → loose x = true) →
    (∀ i q, getL l i = some q → ∃ d, q.2 = downD d) → ∀ i x, getL cs i = some x → loose x = true
  | [], z, cs, h, hz, _ => by simp only [fillD, Option.some.injEq] at h; subst h; exact hz
  | (j, d) :: l, z, cs, h, hz, hl => by
    simp only [fillD] at h
    split at h
    · split at h
      · rename_i o n _ hc
        refine fillD_loose place h (fun i x hx => ?_) (fun i q hq => hl (i + 1) q hq)
        obtain ⟨d0, hd0⟩ := hl 0 (j, d) rfl
        simp only at hd0; subst hd0
        rw [getL_setN _ _ _ _ (by omega)] at hx
        split at hx
        · rw [getL_eq] at hx
          exact down_cells_loose d0 hc.1 x (List.mem_of_getElem? hx)
        · exact hz i x hx
      · simp at h
    · simp at h

theorem buildSlice_run {t e : TypeId} {len : Nat} {parts : Array (Nat × Operand)} (R : Rel B C st a w []) (hop : o.op = .buildSlice t len parts) (he : elemT T t = some e) {z : P} (hz : zeroT T e = some z)
    (hzc : z.cells.length = sizeT T e ∧ len * sizeT T e ≤ 16777216) {cs : List D}
    (hfill : fillD (fun i => some (i * sizeT T e, sizeT T e)) ((List.replicate len z.cells).flatten.map .p) (parts.toList.map fun (i, x) => (i, downD (opdD st.r x))) = some cs) :
    ∃ cells : Array Value, RepDs C cs cells.toList ∧ (∀ u ∈ cells.toList, isCell u = true) ∧ cells.size = len * sizeT T e ∧
      (execOp a.eval o).run T w = .ok (.value (.slice (some ⟨w.heap.size, 0, none⟩) len len)) (w.alloc (.cells cells e)) := by
  obtain ⟨v, hv, hp, rfl, hnt⟩ := zeroT_spec hz
  obtain ⟨c1, c2⟩ := ofVal_cells hp hnt C.Φ
  obtain ⟨ie, hie⟩ := elemT_info he
  have hzl := c1.length
  have hvs : v.cells.size = sizeT T e := by rw [hzc.1] at hzl; simpa using hzl.symm
  -- the zero cells
  have hzrun : ∀ w, (if len * sizeT T e = 0 then (pure #[] : Sem (Array Value)) else do pure (← zeroValue e).cells).run T w = .ok (if len * sizeT T e = 0 then #[] else v.cells) w := by
    intro w
    split
    · rfl
    · simp [hv, Result.andThen]
  let arr : Array Value := (Array.range (len * sizeT T e)).map (fun j => (if len * sizeT T e = 0 then #[] else v.cells)[j % (if len * sizeT T e = 0 then #[] else v.cells).size]!)
  have harr : ∀ j, j < len * sizeT T e → arr[j]? = v.cells[j % sizeT T e]? := by
    intro j hj
    have hne : len * sizeT T e ≠ 0 := by omega
    have hs0 : 0 < sizeT T e := Nat.pos_of_ne_zero (by intro e0; rw [e0] at hne; simp at hne)
    simp only [arr]
    have hlt : j % sizeT T e < v.cells.size := by rw [hvs]; exact Nat.mod_lt _ hs0
    simp only [if_neg hne, Array.getElem?_map, Array.getElem?_range, if_pos hj, Option.map_some, hvs]
    rw [getElem!_pos v.cells (j % sizeT T e) hlt, Array.getElem?_eq_getElem hlt]
  have harrs : arr.size = len * sizeT T e := by simp [arr]
  have hlenf : (List.replicate len (ofVal v).cells).flatten.length = len * sizeT T e := by rw [length_flatten_replicate, hzc.1]
  have hRz : RepDs C ((List.replicate len (ofVal v).cells).flatten.map .p) arr.toList := by
    refine RepDs.mk (by simp only [List.length_map, hlenf, Array.length_toList, harrs]) fun i d u hd hu => ?_
    rw [getL_map, Option.map_eq_some_iff] at hd
    obtain ⟨q, hq, rfl⟩ := hd
    have hi := getL_lt hq
    rw [hlenf] at hi
    rw [getL_eq, flatten_replicate _ _ _ (by rw [hzc.1]; exact hi), hzc.1] at hq
    rw [Array.getElem?_toList, harr i hi] at hu
    obtain ⟨u', e1, e2⟩ := c1.get (by rw [getL_eq]; exact hq)
    rw [Array.getElem?_toList, hu, Option.some.injEq] at e1; subst e1
    simp only [RepD]; exact e2
  have hcz : ∀ u ∈ arr.toList, isCell u = true := by
    intro u hu
    obtain ⟨j, hj⟩ := List.getElem?_of_mem hu
    have hjl : j < len * sizeT T e := by rw [← harrs]; have := (List.getElem?_eq_some_iff.1 hj).1; simpa using this
    rw [Array.getElem?_toList, harr j hjl] at hj
    exact c2 u (by rw [Array.mem_toList_iff]; exact Array.mem_of_getElem? hj)
  obtain ⟨cells, f1, f2, f3, f4⟩ := fill_ok (C := C) (pv := parts.toList.map fun (i, x) => (i, a.eval x)) hfill hRz hcz (by simp) (fun i q r h1 h2 => by
        rw [getL_map, getL_eq, Option.map_eq_some_iff] at h1
        obtain ⟨y, hy, rfl⟩ := h1
        rw [List.getElem?_map, hy] at h2
        simp only [Option.map_some, Option.some.injEq] at h2
        subst h2
        exact ⟨rfl, (R.opd y.2).down⟩)
  have hrun : (execOp a.eval o).run T w = .ok (.value (.slice (some ⟨w.heap.size, 0, none⟩) len len)) (w.alloc (.cells cells e)) := by
    unfold execOp; rw [hop]
    have f1' : Instr.fill (fun i => some (i * sizeT T e, sizeT T e)) arr (List.map (fun x => (x.fst, a.eval x.snd)) parts.toList) = some cells := f1
    have hb : (Instr.buildSlice t len (parts.map fun (i, x) => (i, a.eval x))).run T w = .ok (.slice (some ⟨w.heap.size, 0, none⟩) len len) (w.alloc (.cells cells e)) := by
      have hle : ¬ (len * sizeT T e > 2 ^ 24) := by have := hzc.2; omega
      simp only [Instr.buildSlice, Sem.run_bind, run_underlying (elemT_spec he), Result.andThen_ok, run_sizeT hie, if_neg hle]
      have f2' : Instr.fill (fun i => some (i * sizeT T e, sizeT T e)) arr (Array.map (fun x : Nat × Operand => (x.fst, a.eval x.snd)) parts).toList = some cells := by
        rw [Array.toList_map]; exact f1'
      by_cases h0 : len * sizeT T e = 0
      · simp only [arr, if_pos h0] at f2'
        simp only [if_pos h0, Sem.run_bind, Sem.run_pure, Result.andThen_ok]
        rw [show (Array.map (fun x : Nat × Operand => match x with | (i, x) => (i, a.eval x)) parts) = Array.map (fun x : Nat × Operand => (x.fst, a.eval x.snd)) parts from rfl, f2']
        simp [newRow]
      · simp only [arr, if_neg h0] at f2'
        simp only [if_neg h0, Sem.run_bind, Sem.run_pure, Result.andThen_ok, hv]
        rw [show (Array.map (fun x : Nat × Operand => match x with | (i, x) => (i, a.eval x)) parts) = Array.map (fun x : Nat × Operand => (x.fst, a.eval x.snd)) parts from rfl, f2']
        simp [newRow]
    simp [hb, Result.andThen]
  exact ⟨cells, f2, f3, by rw [f4, harrs], hrun⟩

theorem buildSlice_ok {t : TypeId} {len : Nat} {parts : Array (Nat × Operand)} (R : Rel B C st a w []) (hop : o.op = .buildSlice t len parts) (h : eop T (AP CALL DFR) esc ap st o k kp) : OpOK T B o a w k kp := by
  unfold eop at h
  rw [hop] at h
  simp only [] at h
  split at h
  case h_2 => exact h.elim
  rename_i e he
  split at h
  case h_2 => exact h.elim
  rename_i z hz
  split at h
  case isFalse => exact h.elim
  rename_i hzc
  split at h
  · -- an array that may change
    unfold optR at h
    split at h
    case h_2 => exact h.elim
    rename_i ps hps
    rw [Option.bind_eq_some_iff] at hps
    obtain ⟨cs, hfill, hps⟩ := hps
    split at hps
    case isFalse => simp at hps
    rename_i hall
    simp only [Option.some.injEq] at hps; subst hps
    obtain ⟨cells, f2, f3, f4, hrun⟩ := buildSlice_run R hop he hz hzc hfill
    rw [List.all_eq_true] at hall
    have hall' : ∀ i x, getL cs i = some x → cellD x = true ∧ okArg x = true := fun i x hx => by
      rw [getL_eq] at hx
      have := hall x (List.mem_of_getElem? hx)
      simpa using this
    -- the cells do not hold a tail
    have hlo : ∀ i x, getL cs i = some x → loose x = true := fillD_loose _ hfill (fun i x hx => by rw [getL_map, Option.map_eq_some_iff] at hx; obtain ⟨_, _, rfl⟩ := hx; rfl) (fun i q hq => by
      rw [getL_map, Option.map_eq_some_iff] at hq
      obtain ⟨⟨j, y⟩, _, rfl⟩ := hq
      exact ⟨_, rfl⟩)
    obtain ⟨C', R'⟩ := R.newBlkD (ds := cs) (vs := cells.toList) cells e (fun j v h => by simpa using h) (dp := .ms (sizeT T e) st.h.length 0 len) (vp := .slice (some ⟨w.heap.size, 0, none⟩) len len) f2 f3 (fun i x hx => ⟨hlo i x hx, (hall' i x hx).2⟩) rfl
      (fun C' h1 h2 => by simp only [RepD]; exact ⟨by omega, len, by rw [h2]; simp, Nat.le_refl _⟩)
    exact ok_value hrun h R'
  unfold optR at h
  split at h
  case h_2 => exact h.elim
  rename_i ps hps
  rw [Option.bind_eq_some_iff] at hps
  obtain ⟨cs, hfill, hps⟩ := hps
  split at hps
  case isFalse => simp at hps
  rename_i hall
  obtain ⟨cells, f2, f3, f4, hrun⟩ := buildSlice_run R hop he hz hzc hfill
  have hRp : RepPs C.Φ ps cells.toList := toPs_rep hps f2
  have hpl := hRp.length
  simp only [Array.length_toList, f4] at hpl
  have hrl : (chunk (sizeT T e) len ps).length = len := chunk_length _ _ _
  obtain ⟨C', _, R'⟩ := R.newOwn (w' := w.alloc (.cells cells e)) (wd := sizeT T e) (cap := len) (rows := chunk (sizeT T e) len ps) (vs := cells.toList)
    (fun b hb => heap_alloc_lt hb) size_alloc rfl rfl rfl (by rw [hrl]; simp [f4]) f3 (fun j u hj => by
      simp only [World.cell?, heap_alloc_new]; simpa using hj) (by rw [hrl]; exact Nat.le_refl _) (fun o' h1 h2 => by rw [hrl] at h1; omega) (fun i row hi => by
      obtain ⟨hi1, rfl⟩ := chunk_get _ _ _ _ _ hi
      have hb : i * sizeT T e + sizeT T e ≤ len * sizeT T e := by rw [← Nat.succ_mul]; exact Nat.mul_le_mul_right _ hi1
      refine ⟨by simp; omega, fun j p hp => ?_⟩
      rw [getL_take] at hp
      split at hp
      · rw [getL_drop] at hp
        obtain ⟨u, e1, e2⟩ := hRp.get hp
        exact ⟨u, e1, e2⟩
      · simp at hp)
  rw [hrl] at R'
  exact ok_value hrun h R'
end
end Go.AE
end

