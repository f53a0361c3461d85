/- An evaluator of the program's code over plain data, and its soundness (part 3). No condition. -/
import Derived.Test.YthkfepgmfjpkdaaAe2
import Derived.Defers
import Derived.Below
set_option linter.all false

section
namespace Go.AE
open Go
set_option linter.unusedSimpArgs false
set_option linter.unusedVariables false
section
variable {T : Program} {R R' : Type} {A : Ans R} {A' : Ans R'} {ρ : R → R' → Prop} {esc ap : List Tmp}

structure Sim (A : Ans R) (A' : Ans R') (ρ : R → R' → Prop) : Prop where
  fail : ρ A.fail A'.fail
  br : ∀ b x y x' y', ρ x x' → ρ y y' → ρ (A.br b x y) (A'.br b x' y')
  req : ∀ (c : Prop) [Decidable c] x x', ρ x x' → ρ (A.req c x) (A'.req c x')
  row : ∀ rows i k k', (∀ r, ρ (k r) (k' r)) → ρ (A.row rows i k) (A'.row rows i k')
  loop : ∀ (body : St → (Ex → St → R) → R) (body' : St → (Ex → St → R') → R'), (∀ st k k', (∀ x st, ρ (k x st) (k' x st)) → ρ (body st k) (body' st k')) →
    ∀ st k k', (∀ x st, ρ (k x st) (k' x st)) → ρ (A.loop body st k) (A'.loop body' st k')
  call : ∀ f ds h k k', (∀ r h, ρ (k r h) (k' r h)) → ρ (A.call f ds h k) (A'.call f ds h k')
  calln : ∀ f ds h k k', (∀ r h, ρ (k r h) (k' r h)) → ρ (A.calln f ds h k) (A'.calln f ds h k')
  dfr : ∀ df x h k k', (∀ x h, ρ (k x h) (k' x h)) → ρ (A.dfr df x h k) (A'.dfr df x h k')

theorem Sim.CD (S : Sim A A' ρ) {k : D → R} {k' : D → R'} (h : ∀ d, ρ (k d) (k' d)) (x : Option D) : ρ (CD A k x) (CD A' k' x) := by
  cases x with
  | none => exact S.fail
  | some d => exact h d
theorem Sim.optR {α : Type} (S : Sim A A' ρ) {k : α → R} {k' : α → R'} (h : ∀ d, ρ (k d) (k' d)) (x : Option α) : ρ (optR A k x) (optR A' k' x) := by
  cases x with
  | none => exact S.fail
  | some d => exact h d

theorem Sim.eop (S : Sim A A' ρ) {st : St} {o : Oper} {k : D → St → R} {k' : D → St → R'} {kp : P → St → R} {kp' : P → St → R'}
    (hk : ∀ d st, ρ (k d st) (k' d st)) (hp : ∀ d st, ρ (kp d st) (kp' d st)) : ρ (eop T A esc ap st o k kp) (eop T A' esc ap st o k' kp') := by
  have hf := S.fail
  unfold AE.eop
  split
  all_goals (repeat' split)
  all_goals first | exact hk _ _ | exact hp _ _ | exact hf | skip
  all_goals first
    | exact S.optR (fun _ => hk _ _) _
    | exact S.CD (fun _ => hk _ _) _
    | exact S.req _ _ _ (hk _ _)
    | exact S.br _ _ _ _ _ (hk _ _) (hk _ _)
    | skip
  all_goals first
    | exact S.req _ _ _ hf
    | exact S.req _ _ _ (S.req _ _ _ (hk _ _))
    | exact S.br _ _ _ _ _ (hk _ _) (S.req _ _ _ (hk _ _))
    | (refine S.row _ _ _ _ fun r => ?_; first | (split; exact hk _ _; exact hf) | exact S.optR (fun _ => hk _ _) _)
    | (refine S.call _ _ _ _ _ fun r h => ?_; cases r; exact hk _ _; exact hp _ _)

theorem Sim.wanted (S : Sim A A' ρ) {ops : List Oper} {st : St} {o : Oper} {x y : R} {x' y' : R'} (hx : ρ x x') (hy : ρ y y') : ρ (wantedD A ops st o x y) (wantedD A' ops st o x' y') := by
  have hf := S.fail
  unfold wantedD
  repeat' split
  all_goals first | exact hx | exact hy | exact hf | exact S.br _ _ _ _ _ hx hy | exact S.br _ _ _ _ _ hy hx

theorem Sim.eops (S : Sim A A' ρ) {ops : List Oper} : ∀ (l : List Oper) {st : St} {k : Ex → St → R} {k' : Ex → St → R'}, (∀ x st, ρ (k x st) (k' x st)) →
    ρ (eops T A esc ap ops l st k) (eops T A' esc ap ops l st k')
  | [], st, k, k', h => h _ _
  | o :: l, st, k, k', h => by
    simp only [AE.eops]
    exact S.wanted (S.eop (fun d st => S.eops l h) (fun p st => h _ _)) (S.eops l h)

theorem Sim.ecallN (S : Sim A A' ρ) {st : St} {o : Oper} {k : D → List Blk → R} {k' : D → List Blk → R'} {kp : P → List Blk → R} {kp' : P → List Blk → R'} (hk : ∀ d h, ρ (k d h) (k' d h)) (hp : ∀ d h, ρ (kp d h) (kp' d h)) :
    ρ (ecallN T A st o k kp) (ecallN T A' st o k' kp') := by
  have hf := S.fail
  unfold AE.ecallN
  repeat' split
  all_goals first | exact hf | (refine S.calln _ _ _ _ _ fun r h => ?_; cases r; exact hk _ _; exact hp _ _)

theorem Sim.estoreN (S : Sim A A' ρ) {st : St} {o : Oper} {k : St → R} {k' : St → R'} (hk : ∀ d, ρ (k d) (k' d)) : ρ (estoreN T A st o k) (estoreN T A' st o k') := by
  have hf := S.fail
  unfold AE.estoreN
  repeat' split
  all_goals first | exact hf | exact S.optR hk _

theorem Sim.edraw (S : Sim A A' ρ) {ops : List Oper} {al : Nat} : ∀ (l : List Ent) {dn me : Nat} {st : St} {k : Ex → St → R} {k' : Ex → St → R'}, (∀ x st, ρ (k x st) (k' x st)) →
    ρ (edraw T A esc ap ops al dn me l st k) (edraw T A' esc ap ops al dn me l st k')
  | [], dn, me, st, k, k', h => h _ _
  | (i, o, m) :: l, dn, me, st, k, k', h => by
    have hf := S.fail
    have hrec : ∀ {dn me st}, ρ (AE.edraw T A esc ap ops al dn me l st k) (AE.edraw T A' esc ap ops al dn me l st k') := S.edraw l h
    simp only [AE.edraw]
    repeat' split
    all_goals first
      | exact hf
      | exact S.wanted (S.eop (fun _ _ => hrec) (fun _ _ => hf)) hrec
      | exact S.eop (fun _ _ => hrec) (fun _ _ => hf)
      | exact S.wanted (S.eop (fun _ _ => hrec) (fun _ _ => h _ _)) hrec
      | exact S.wanted (S.ecallN (fun _ _ => hrec) (fun _ _ => h _ _)) hrec
      | exact S.wanted (S.estoreN (fun _ => hrec)) hrec
      | exact S.wanted hf hrec

theorem Sim.eregion (S : Sim A A' ρ) {ops : List Oper} {st : St} {k : Ex → St → R} {k' : Ex → St → R'} (h : ∀ x st, ρ (k x st) (k' x st)) : ρ (eregion T A esc ops st k) (eregion T A' esc ops st k') := by
  unfold AE.eregion
  split
  · exact S.edraw _ h
  · exact S.fail

theorem Sim.ecode (S : Sim A A' ρ) : ∀ (c : Code) {st : St} {k : Ex → St → R} {k' : Ex → St → R'}, (∀ x st, ρ (k x st) (k' x st)) → ρ (ecode T A esc c st k) (ecode T A' esc c st k')
  | .skip, st, k, k', h => h _ _
  | .region _ ops draw, st, k, k', h => by
    simp only [AE.ecode]
    split
    · exact S.eregion h
    · exact S.eops _ h
  | .seq x y, st, k, k', h => by
    simp only [AE.ecode]
    refine S.ecode x fun e st => ?_
    cases e
    · exact S.ecode y h
    all_goals exact h _ _
  | .cond c x y, st, k, k', h => by
    simp only [AE.ecode]
    split
    · exact S.br _ _ _ _ _ (S.ecode x h) (S.ecode y h)
    · exact S.fail
  | .block id c, st, k, k', h => by
    simp only [AE.ecode]
    refine S.ecode c fun e st => ?_
    cases e
    case exit id' =>
      simp only []
      split <;> exact h _ _
    all_goals exact h _ _
  | .loop c, st, k, k', h => by
    simp only [AE.ecode]
    exact S.loop (AE.ecode T A esc c) (AE.ecode T A' esc c) (fun st k k' h => S.ecode c h) _ _ _ h
  | .exit id, st, k, k', h => h _ _
  | .ret, st, k, k', h => h _ _
  | .rangeFunc .., st, k, k', h => S.fail
  | .scope _, st, k, k', h => S.fail
  | .label _, st, k, k', h => S.fail
  | .goto _, st, k, k', h => S.fail
  | .refuse _, st, k, k', h => S.fail

theorem Sim.efn (S : Sim A A' ρ) {es : List Tmp} {f : Func} {args : List D} {h : List Blk} {k : Res → List Blk → R} {k' : Res → List Blk → R'} (hk : ∀ x h, ρ (k x h) (k' x h)) :
    ρ (efn T A es f args h k) (efn T A' es f args h k') := by
  have hf := S.fail
  unfold AE.efn
  split
  · exact hf
  · refine S.ecode _ fun x st => S.dfr _ _ _ _ _ fun x h => ?_
    repeat' split
    all_goals first | exact hf | exact hk _ _
end
end Go.AE
end

section
namespace Go.AE
open Go
set_option linter.unusedSimpArgs false
set_option linter.unusedVariables false
section
variable {T : Program} {B : Base} {C : Ctx} {st : St} {a : Act} {w w' : World} {o : Oper}

theorem Rel.freeze {ex : List (D × Value)} (R : Rel B C st a w ex) {id : Nat} {ds : List D} {ps : List P} (hs : getL st.h id = some (.cells ds)) (hpl : ps.length = ds.length)
    (hpt : ∀ i p, getL ps i = some p → ∃ v, w.cell? ⟨C.β (.blk id), i, none⟩ = some v ∧ RepP C.Φ p v) :
    ∃ C', CLe (fun _ => True) C C' ∧ Rel B C' { st with h := setL st.h id (.froz ps) } a w ex ∧ RepCells C'.Φ (C.β (.blk id)) ps 0 ∧ C'.β = C.β := by
  have hk : cellsOf st (.blk id) = some ds := by simp [cellsOf, hs]
  have hlive := liveK_of_cells hk
  have hlt := getL_lt hs
  have hempty := R.empty (.blk id) hlive
  let Φ' : Nat → Nat → Option Value := fun b o => if b = C.β (.blk id) ∧ o < ps.length then w.cell? ⟨b, o, none⟩ else C.Φ b o
  have hΦne : ∀ b o, b ≠ C.β (.blk id) → Φ' b o = C.Φ b o := fun b o h => by simp only [Φ']; rw [if_neg (fun e => h e.1)]
  have hle : Le C.Φ Φ' := by
    intro b o v h
    simp only [Φ']
    rw [if_neg]
    · exact h
    · rintro ⟨rfl, _⟩; rw [hempty o] at h; cases h
  have hcle := CLe.ofΦ (C := C) hle
  have hsub : SubΦ Φ' w := by
    intro b o v h
    simp only [Φ'] at h
    split at h
    · exact h
    · exact R.sub b o v h
  have hc : ∀ k, k ≠ .blk id → cellsOf { st with h := setL st.h id (.froz ps) } k = cellsOf st k := by
    intro k hne
    cases k with
    | box s' => rfl
    | blk id' =>
      have : id' ≠ id := fun e => hne (by rw [e])
      simp only [cellsOf, getL_setL]; rw [if_neg (by omega)]
  have hl : ∀ k, k ≠ .blk id → liveK { st with h := setL st.h id (.froz ps) } k = liveK st k := by
    intro k hne
    cases k with
    | box s' => rfl
    | blk id' =>
      have : id' ≠ id := fun e => hne (by rw [e])
      simp only [liveK, getL_setL]; rw [if_neg (by omega)]
  have hcs : cellsOf { st with h := setL st.h id (.froz ps) } (.blk id) = none := by simp [cellsOf, getL_setL, hlt]
  have hls : liveK { st with h := setL st.h id (.froz ps) } (.blk id) = false := by simp [liveK, getL_setL, hlt]
  have hat : ∀ p d v, atPos (C.withΦ Φ') { st with h := setL st.h id (.froz ps) } a.tmps w ex p = some (d, v) → atPos C st a.tmps w ex p = some (d, v) := by
    intro p d v h
    cases p with
    | reg i => exact h
    | ex j => exact h
    | blk k => exact h
    | cell k j =>
      by_cases hne : k = .blk id
      · subst hne; simp only [atPos, hcs, Option.bind_none, both] at h; cases h
      · simp only [atPos, hc k hne, Ctx.withΦ] at h ⊢; exact h
  have hxb : ∀ p n, xb (C.withΦ Φ') { st with h := setL st.h id (.froz ps) } a.tmps w ex p = some n → xb C st a.tmps w ex p = some n ∧ p ≠ .blk (.blk id) := by
    intro p n h
    cases p with
    | reg i =>
      simp only [xb, Option.bind_eq_some_iff] at h ⊢
      obtain ⟨⟨d, v⟩, h1, h2⟩ := h
      exact ⟨⟨(d, v), hat _ d v h1, h2⟩, by simp⟩
    | ex i =>
      simp only [xb, Option.bind_eq_some_iff] at h ⊢
      obtain ⟨⟨d, v⟩, h1, h2⟩ := h
      exact ⟨⟨(d, v), hat _ d v h1, h2⟩, by simp⟩
    | cell k i =>
      simp only [xb, Option.bind_eq_some_iff] at h ⊢
      obtain ⟨⟨d, v⟩, h1, h2⟩ := h
      exact ⟨⟨(d, v), hat _ d v h1, h2⟩, by simp⟩
    | blk k =>
      by_cases hne : k = .blk id
      · subst hne; simp [xb, hls] at h
      · refine ⟨?_, by simpa using hne⟩
        simp only [xb, hl k hne, Ctx.withΦ] at h ⊢; exact h
  have hcells : RepCells Φ' (C.β (.blk id)) ps 0 := by
    refine RepCells.mk fun i p hi => ?_
    obtain ⟨v0, hv0, hdp⟩ := hpt i p hi
    obtain ⟨d, hd⟩ := getL_some (l := ds) (i := i) (by rw [← hpl]; exact getL_lt hi)
    obtain ⟨_, v, h1, h2, h3, _⟩ := R.cells (.blk id) ds i d hk hd
    rw [hv0, Option.some.injEq] at h1; subst h1
    refine ⟨v0, ?_, h2, RepP.mono hle p v0 hdp⟩
    simp only [Φ', Nat.zero_add]
    rw [if_pos ⟨trivial, getL_lt hi⟩]; exact hv0
  have hxs : xb C st a.tmps w ex (.blk (.blk id)) = some (C.β (.blk id)) := by simp [xb, hlive]
  refine ⟨C.withΦ Φ', hcle, ?_, hcells, rfl⟩
  refine { len := R.len, regs := fun i d v h1 h2 => RepD.mono hcle d v (lpD_all (fun _ => trivial) d) (R.regs i d v h1 h2),
           exs := fun i q h => RepD.mono hcle _ _ (lpD_all (fun _ => trivial) _) (R.exs i q h), cells := ?_, seals := fun s ps h => RepCells.mono hle _ _ _ (R.seals s ps h), frzs := ?_,
           nh := by simp only [length_setL]; exact R.nh, hb := by simp only [length_setL]; exact R.hb, tails := ?_, inj := fun p q n h1 h2 => R.inj p q n (hxb p n h1).1 (hxb q n h2).1, bound := fun p n h => R.bound p n (hxb p n h).1, empty := ?_, sub := hsub, frm := ?_,
           defs := R.defs, defr := fun i q d h1 h2 => (R.defr i q d h1 h2).mono hcle, maps := ?_, al := ?_ }
  · intro k ds' j d h1 h2
    by_cases hne : k = .blk id
    · subst hne; rw [hcs] at h1; cases h1
    · rw [hc k hne] at h1
      obtain ⟨h3, v, h4, h5, h6, h7⟩ := R.cells k ds' j d h1 h2
      exact ⟨h3, v, h4, h5, RepD.mono hcle d v (lpD_all (fun _ => trivial) d) h6, h7⟩
  · exact R.al
  · intro id' ps' h
    simp only [getL_setL] at h
    by_cases e : id = id'
    · subst e
      simp only [true_and, hlt, if_true, Option.some.injEq, Blk.froz.injEq] at h
      subst h
      exact hcells
    · rw [if_neg (by simp [e])] at h
      exact RepCells.mono hle _ _ _ (R.frzs id' ps' h)
  · intro p d v h
    have h' := hat p d v h
    have ht := R.tails p d v h'
    unfold TailOK at ht ⊢
    split
    · rename_i wd rows ad n cap
      simp only [] at ht
      intro hn
      obtain ⟨h1, h2⟩ := ht hn
      refine ⟨fun o ho => ?_, h2⟩
      have hb : ad.block ≠ C.β (.blk id) := by
        intro e
        have hx : xb C st a.tmps w ex p = some ad.block := by
          cases p with
          | blk k => simp [atPos] at h'
          | reg i => simp [xb, h', tailBlk, hn]
          | ex i => simp [xb, h', tailBlk, hn]
          | cell k i => simp [xb, h', tailBlk, hn]
        have := R.inj p (.blk (.blk id)) ad.block hx (by rw [hxs, e])
        subst this
        simp [atPos] at h'
      show Φ' _ _ = _
      rw [hΦne _ _ hb]; exact h1 o ho
    · trivial
  · intro k h o
    by_cases hne : k = .blk id
    · subst hne; rw [hls] at h; cases h
    · rw [hl k hne] at h
      have hb : C.β k ≠ C.β (.blk id) := by
        intro e
        have := R.inj (.blk k) (.blk (.blk id)) (C.β k) (by simp [xb, h]) (by rw [hxs, e])
        simp only [Pos.blk.injEq] at this
        exact hne this
      show Φ' (C.β k) o = none
      rw [hΦne _ _ hb]; exact R.empty k h o
  · refine ⟨R.frm.os, R.frm.tape, R.frm.output, R.frm.size, R.frm.block, fun b hb hX o => ?_, R.frm.Φle.trans hle⟩
    have : b ≠ C.β (.blk id) := by
      rintro rfl
      rcases (R.bound _ _ hxs).2 with h | h
      · omega
      · exact hX h
    show Φ' b o = _
    rw [hΦne _ _ this]; exact R.frm.Φblock b hb hX o
  · intro id' es clock h
    simp only [getL_setL] at h
    split at h
    · simp at h
    · obtain ⟨ms, h1, h2⟩ := R.maps id' es clock h
      exact ⟨ms, h1, h2.mono hcle⟩


theorem CLe.refl {S : Nat → Prop} (C : Ctx) : CLe S C C := ⟨Le.refl _, Nat.le_refl _, fun _ _ => rfl, fun _ _ h => ⟨h, rfl⟩⟩
theorem CLe.trans {C1 C2 C3 : Ctx} (h : CLe (fun _ => True) C1 C2) (g : CLe (fun _ => True) C2 C3) : CLe (fun _ => True) C1 C3 :=
  ⟨h.Φ.trans g.Φ, Nat.le_trans h.nh g.nh, fun id hid => (g.blk id (Nat.lt_of_lt_of_le hid h.nh)).trans (h.blk id hid), fun s _ hs => ⟨(g.box s trivial (h.box s trivial hs).1).1, (g.box s trivial (h.box s trivial hs).1).2.trans (h.box s trivial hs).2⟩⟩

theorem rows_chunk {Φ : Nat → Nat → Option Value} {b wd lo n : Nat} {ps : List P} (hc : RepCells Φ b ps 0) (hl : (lo + n) * wd ≤ ps.length) : RepRows Φ wd b (chunk wd n (ps.drop (lo * wd))) (lo * wd) := by
  have hlo : (lo + n) * wd = lo * wd + n * wd := Nat.add_mul ..
  refine RepRows.mk fun i row hi => ?_
  obtain ⟨hin, rfl⟩ := chunk_get wd n _ i row hi
  have hiw : (i + 1) * wd ≤ n * wd := Nat.mul_le_mul_right _ hin
  have hiw' : (i + 1) * wd = i * wd + wd := Nat.succ_mul ..
  refine ⟨by simp; omega, RepCells.mk fun j p hp => ?_⟩
  rw [getL_take] at hp
  split at hp
  · rw [getL_drop, getL_drop] at hp
    obtain ⟨v, h1, h2, h3⟩ := hc.get hp
    exact ⟨v, by rw [← h1]; congr 1; omega, h2, h3⟩
  · simp at hp

theorem frz_ok : ∀ (n : Nat),
    (∀ (d : D) (h : List Blk) (p : P) (h' : List Blk) {B : Base} {C : Ctx} {st : St} {a : Act} {w : World} {ex : List (D × Value)} {v : Value}, frzA n d h = some (p, h') → st.h = h → Rel B C st a w ex → RepD C d v →
      ∃ C', CLe (fun _ => True) C C' ∧ C'.β = C.β ∧ Rel B C' { st with h := h' } a w ex ∧ RepP C'.Φ p v) ∧
    (∀ (ds : List D) (h : List Blk) (ps : List P) (h' : List Blk) {B : Base} {C : Ctx} {st : St} {a : Act} {w : World} {ex : List (D × Value)} {vs : List Value}, frzAs n ds h = some (ps, h') → st.h = h → Rel B C st a w ex → RepDs C ds vs →
      ∃ C', CLe (fun _ => True) C C' ∧ C'.β = C.β ∧ Rel B C' { st with h := h' } a w ex ∧ RepPs C'.Φ ps vs) := by
  intro n
  induction n with
  | zero => exact ⟨fun d h p h' => by intro B C st a w ex v e; simp [frzA] at e, fun ds h ps h' => by intro B C st a w ex v e; simp [frzAs] at e⟩
  | succ n ih =>
    obtain ⟨ih1, ih2⟩ := ih
    have same : ∀ {B : Base} {C : Ctx} {st : St} {a : Act} {w : World} {ex : List (D × Value)}, Rel B C st a w ex → Rel B C { st with h := st.h } a w ex := fun R => R
    refine ⟨fun d h p h' => ?_, fun ds h ps h' => ?_⟩
    · intro B C st a w ex v e hst R hr
      subst hst
      cases d with
      | p x =>
        simp only [frzA, Option.some.injEq, Prod.mk.injEq] at e
        obtain ⟨rfl, rfl⟩ := e
        exact ⟨C, CLe.refl C, rfl, R, by simpa only [RepD] using hr⟩
      | own wd rows =>
        simp only [frzA, Option.some.injEq, Prod.mk.injEq] at e
        obtain ⟨rfl, rfl⟩ := e
        exact ⟨C, CLe.refl C, rfl, R, by simpa only [RepD] using hr⟩
      | ms wd id lo m =>
        simp only [RepD] at hr
        obtain ⟨hid, cap, rfl, hcap⟩ := hr
        simp only [frzA] at e
        split at e
        · rename_i ps hps
          split at e
          · rename_i hl
            simp only [Option.some.injEq, Prod.mk.injEq] at e
            obtain ⟨rfl, rfl⟩ := e
            refine ⟨C, CLe.refl C, rfl, R, ?_⟩
            simp only [RepP, chunk_length]
            exact ⟨_, _, cap, rfl, hcap, rows_chunk (R.frzs id ps hps) hl⟩
          · simp at e
        · rename_i ds hds
          split at e
          case h_2 => simp at e
          rename_i ps h1 hfr
          split at e
          case h_2 => simp at e
          rename_i ds2 hds2
          split at e
          case isFalse => simp at e
          rename_i hl
          simp only [Option.some.injEq, Prod.mk.injEq] at e
          obtain ⟨rfl, rfl⟩ := e
          -- the block's cells
          obtain ⟨vs, hv1, hv2⟩ := exists_list ds.length (fun j u => w.cell? ⟨C.β (.blk id), j, none⟩ = some u ∧ ∀ d, getL ds j = some d → RepD C d u) fun j hj => by
            obtain ⟨d, hd⟩ := getL_some hj
            obtain ⟨_, u, e1, _, e2, _⟩ := R.cells (.blk id) ds j d (by simp [cellsOf, hds]) hd
            exact ⟨u, e1, fun d' hd' => by rw [hd, Option.some.injEq] at hd'; subst hd'; exact e2⟩
          obtain ⟨C1, c1, c2, R1, c3⟩ := ih2 ds st.h ps h1 hfr rfl R (RepDs.mk hv1.symm fun i d u hd hu => (hv2 i u hu).2 d hd)
          obtain ⟨C2, c4, R2, c5, c6⟩ := R1.freeze (ps := ps) hds2 hl.2 fun i p hp => by
            obtain ⟨u, e1, e2⟩ := c3.get hp
            exact ⟨u, by rw [c2]; exact (hv2 i u e1).1, e2⟩
          refine ⟨C2, c1.trans c4, c6.trans c2, R2, ?_⟩
          simp only [RepP, chunk_length]
          rw [c2] at c5
          exact ⟨_, _, cap, rfl, hcap, rows_chunk c5 hl.1⟩
        · simp at e
      | agg ds =>
        simp only [frzA, Option.map_eq_some_iff] at e
        obtain ⟨⟨ps, h1⟩, e1, e2⟩ := e
        simp only [Prod.mk.injEq] at e2
        obtain ⟨rfl, rfl⟩ := e2
        simp only [RepD] at hr
        obtain ⟨vs, rfl, hr⟩ := hr
        obtain ⟨C1, c1, c2, R1, c3⟩ := ih2 ds st.h ps h1 e1 rfl R hr
        exact ⟨C1, c1, c2, R1, by simp only [RepP]; exact ⟨vs, rfl, c3⟩⟩
      | tup ds =>
        simp only [frzA, Option.map_eq_some_iff] at e
        obtain ⟨⟨ps, h1⟩, e1, e2⟩ := e
        simp only [Prod.mk.injEq] at e2
        obtain ⟨rfl, rfl⟩ := e2
        simp only [RepD] at hr
        obtain ⟨vs, rfl, hr⟩ := hr
        obtain ⟨C1, c1, c2, R1, c3⟩ := ih2 ds st.h ps h1 e1 rfl R hr
        exact ⟨C1, c1, c2, R1, by simp only [RepP]; exact ⟨vs, rfl, c3⟩⟩
      | fn f ds =>
        simp only [frzA, Option.map_eq_some_iff] at e
        obtain ⟨⟨ps, h1⟩, e1, e2⟩ := e
        simp only [Prod.mk.injEq] at e2
        obtain ⟨rfl, rfl⟩ := e2
        simp only [RepD] at hr
        obtain ⟨vs, rfl, hr⟩ := hr
        obtain ⟨C1, c1, c2, R1, c3⟩ := ih2 ds st.h ps h1 e1 rfl R hr
        exact ⟨C1, c1, c2, R1, by simp only [RepP]; exact ⟨vs, rfl, c3⟩⟩
      | _ => simp [frzA] at e
    · intro B C st a w ex vs e hst R hr
      subst hst
      cases ds with
      | nil =>
        simp only [frzAs, Option.some.injEq, Prod.mk.injEq] at e
        obtain ⟨rfl, rfl⟩ := e
        exact ⟨C, CLe.refl C, rfl, R, by simp only [RepDs] at hr; simp only [RepPs]; exact hr⟩
      | cons d ds =>
        simp only [RepDs] at hr
        obtain ⟨v, vs', rfl, hr1, hr2⟩ := hr
        simp only [frzAs] at e
        split at e
        case h_2 => simp at e
        rename_i p h1 e1
        rw [Option.map_eq_some_iff] at e
        obtain ⟨⟨ps1, h2⟩, e2, e3⟩ := e
        simp only [Prod.mk.injEq] at e3
        obtain ⟨rfl, rfl⟩ := e3
        obtain ⟨C1, c1, c2, R1, c3⟩ := ih1 d st.h p h1 e1 rfl R hr1
        obtain ⟨C2, c4, c5, R2, c6⟩ := ih2 ds h1 ps1 h2 e2 rfl R1 (RepDs.mono c1 ds vs' (lpDs_all (fun _ => trivial) ds) hr2)
        exact ⟨C2, c1.trans c4, c5.trans c2, R2, by simp only [RepPs]; exact ⟨v, vs', rfl, RepP.mono c4.1 p v c3, c6⟩⟩
end
end Go.AE
end

section
namespace Go.AE
open Go
set_option linter.unusedSimpArgs false
set_option linter.unusedVariables false
section
variable {T : Program} {B : Base} {C : Ctx} {st : St} {a : Act} {w w' : World} {o : Oper}

/-- what a call that has its memory to itself comes to -/
def PureGood (n : Nat) (res : Res) : Res → List Blk → Prop := fun r h1 =>
  match r with
  | .ret d => ∃ p h2, frzA n d h1 = some (p, h2) ∧ res = .ret (.p p)
  | .pan q => res = .pan q

def noH (C : Ctx) : Ctx := { β := C.β, al := fun _ => False, nh := 0, Φ := C.Φ }

theorem xb_nil {C : Ctx} {w : World} {p : Pos} {n : Nat} (e : xb C (stH []) #[] w [] p = some n) : False := by
  have hs := xb_stH_seen e
  cases p with
  | cell k j => cases k with
    | box s => simp [seen] at hs
    | blk id => simp [xb, atPos, stH, cellsOf, getL, both] at e
  | blk k => cases k with
    | box s => simp [seen] at hs
    | blk id => simp [xb, liveK, stH, getL] at e
  | _ => simp [seen] at hs

theorem HRel.none {C : Ctx} {w : World} (hs : SubΦ C.Φ w) : HRel (noH C) w [] := by
  have hx : ∀ p n, xb (noH C) (stH []) #[] w [] p = some n → False := fun p n e => xb_nil e
  refine { len := rfl, regs := by intro i d v h; simp [stH, getL] at h, exs := by intro i q h; simp [getL] at h, cells := ?_, al := by intro s; simp [noH, boxed, stH, getL],
           seals := by intro s ps h; simp [stH, getL] at h, frzs := by intro id ps h; simp [stH, getL] at h, nh := rfl, hb := ⟨Nat.le_refl _, fun _ _ => rfl⟩, tails := ?_, inj := fun p q n h1 h2 => (hx p n h1).elim, bound := fun p n h => (hx p n h).elim,
           empty := ?_, sub := hs, frm := ⟨rfl, rfl, rfl, Nat.le_refl _, fun _ _ _ => rfl, fun _ _ _ _ => rfl, Le.refl _⟩, defs := rfl, defr := by intro i q d h; simp [stH, getL] at h, maps := by intro id es c h; simp [stH, getL] at h }
  · intro k ds j d h1 h2
    obtain ⟨id, rfl⟩ := stH_cells h1
    simp [cellsOf, stH, getL] at h1
  · intro p d v h
    have := atPos_stH_seen h
    cases p with
    | cell k j => cases k with
      | box s => simp [seen] at this
      | blk id => simp [atPos, stH, cellsOf, getL, both] at h
    | blk k => simp [atPos] at h
    | _ => simp [seen] at this
  · intro k h
    obtain ⟨id, rfl⟩ := stH_live h
    simp [liveK, stH, getL] at h

theorem RepDs_map_p {C : Ctx} : ∀ {ps : List P} {vs : List Value}, RepPs C.Φ ps vs → RepDs C (ps.map .p) vs
  | [], vs, h => by simp only [RepPs] at h; simp only [List.map_nil, RepDs]; exact h
  | p :: ps, vs, h => by
    simp only [RepPs] at h
    obtain ⟨v, vs', rfl, h1, h2⟩ := h
    simp only [List.map_cons, RepDs]
    exact ⟨v, vs', rfl, by simpa only [RepD] using h1, RepDs_map_p h2⟩
theorem okArgs_map_p : ∀ (ps : List P), okArgs (ps.map .p) = true
  | [] => rfl
  | p :: ps => by simp [okArgs, okArg, okArgs_map_p ps]

/-- a call with immutable data, in any memory -/
theorem lift_pure {f : FuncId} {n : Nat} {ps : List P} {res : Res} (hc : CallOK T f (ps.map .p) [] (PureGood n res)) {h : List Blk} {vs : List Value}
    (R : Rel B C (stH h) actE w []) (hr : RepPs C.Φ ps vs) :
    Calls T f vs.toArray w fun e w' => ∃ C', match res with
      | .ret d => ∃ v, e = .returned v ∧ okArg d = true ∧ Rel B C' (stH h) actE w' [(d, v)]
      | .pan p => ∃ v, e = .panicked [{ v, recovered := false }] ∧ Rel B C' (stH h) actE w' [(.p p, v)] := by
  have H := HRel.none R.sub
  have hr' : RepDs (noH C) (ps.map .p) vs := RepDs_map_p (C := noH C) hr
  refine (hc (noH C) w vs hr' (okArgs_map_p ps) (fun i d h => by rw [getL_map, Option.map_eq_some_iff] at h; obtain ⟨_, _, rfl⟩ := h; rfl) H).mono fun e w' => ?_
  rintro ⟨C', r, h', hg, hp⟩
  have fin : ∀ {Φ' : Nat → Nat → Option Value} {p : P} {v : Value}, Frm (baseOf (noH C) w []) Φ' w' → SubΦ Φ' w' → RepP Φ' p v → ∃ C'', Rel B C'' (stH h) actE w' [(.p p, v)] := by
    intro Φ' p v f hsub hpv
    have nX : ∀ b, ¬ (baseOf (noH C) w []).X b := by rintro b ⟨q, hq⟩; exact xb_nil hq
    have R2 := R.world (w' := w') (Φ' := Φ') (fun b hb => f.block b hb (nX b)) f.size f.os f.tape f.output f.Φle (fun b hb o => f.Φblock b hb (nX b) o) hsub
    exact ⟨_, R2.push (d := .p p) (v := v) rfl (by simp only [RepD]; exact hpv)⟩
  cases r with
  | ret d =>
    obtain ⟨p, h2, hf, rfl⟩ := hg
    obtain ⟨v, rfl, hok, R'⟩ := hp
    obtain ⟨C2, _, _, R2, hpv⟩ := (frz_ok n).1 d h' p h2 hf rfl R' (R'.exs 0 (d, v) rfl)
    obtain ⟨C3, R3⟩ := fin R2.frm R2.sub hpv
    exact ⟨C3, v, rfl, rfl, R3⟩
  | pan q =>
    simp only [PureGood] at hg; subst hg
    obtain ⟨v, rfl, R'⟩ := hp
    have hpv := R'.exs 0 (.p q, v) rfl
    simp only [RepD] at hpv
    obtain ⟨C3, R3⟩ := fin R'.frm R'.sub hpv
    exact ⟨C3, v, rfl, R3⟩

theorem CallOK.pure {f : FuncId} {n : Nat} {ps : List P} {res : Res} (hc : CallOK T f (ps.map .p) [] (PureGood n res)) {ds : List D} (hds : toPs ds = some ps) (h : List Blk) :
    CallOK T f ds h fun r' h' => r' = res ∧ h' = h := by
  intro C w vs hr hok hlo H
  refine (lift_pure hc H (toPs_rep hds hr)).mono fun e w' => ?_
  rintro ⟨C', hx⟩
  exact ⟨C', res, h, ⟨rfl, rfl⟩, by cases res <;> exact hx⟩

theorem CallOK.frozen {f : FuncId} {n m : Nat} {ps : List P} {res : Res} (hc : CallOK T f (ps.map .p) [] (PureGood n res)) {ds : List D} {h h1 : List Blk} (hds : frzAs m ds h = some (ps, h1)) :
    CallOK T f ds h fun r' h' => r' = res ∧ h' = h1 := by
  intro C w vs hr hok hlo H
  obtain ⟨C1, _, _, R1, hp⟩ := (frz_ok m).2 ds h ps h1 hds rfl H hr
  refine (lift_pure hc R1 hp).mono fun e w' => ?_
  rintro ⟨C', hx⟩
  exact ⟨C', res, h1, ⟨rfl, rfl⟩, by cases res <;> exact hx⟩
end
end Go.AE
end

section
namespace Go.AE
open Go
set_option linter.unusedSimpArgs false
set_option linter.unusedVariables false

theorem eqV_sound : ∀ {a b : Value}, eqV a b = true → a = b
  | .bool a, x, h => by cases x <;> simp_all [eqV]
  | .int k a, x, h => by cases x <;> simp_all [eqV]
  | .float k a, x, h => by cases x <;> simp_all [eqV]
  | .string a, x, h => by
    cases x <;> simp only [eqV, beq_iff_eq] at h <;> first | (cases h; done) | skip
    rename_i b
    cases a; cases b; simp only at h; rw [h]
  | .iface t a, x, h => by
    cases x <;> simp only [eqV, Bool.and_eq_true, beq_iff_eq] at h <;> first | (cases h; done) | skip
    rw [h.1, eqV_sound h.2]
  | .func f a c, x, h => by
    cases x with
    | func g b d => cases f <;> cases g <;> simp_all [eqV]
    | _ => simp [eqV] at h
  | .nilFunc, x, h => by cases x <;> simp_all [eqV]
  | .nilIface, x, h => by cases x <;> simp_all [eqV]
  | .slice a n c, x, h => by cases x <;> simp_all [eqV]
  | .pointer a, x, h => by cases x <;> simp_all [eqV]
  | .map a, x, h => by cases x <;> simp_all [eqV]
  | .complex .., x, h => by simp [eqV] at h
  | .chan .., x, h => by simp [eqV] at h
  | .agg .., x, h => by simp [eqV] at h
  | .tuple .., x, h => by simp [eqV] at h

mutual
theorem eqP_sound : ∀ {a b : P}, eqP a b = true → a = b
  | .sc a, x, h => by
    cases x <;> simp only [eqP] at h <;> first | (cases h; done) | skip
    rw [eqV_sound h]
  | .sl w a, x, h => by
    cases x <;> simp only [eqP, Bool.and_eq_true, beq_iff_eq] at h <;> first | (cases h; done) | skip
    rw [h.1, eqPss_sound h.2]
  | .ep w a i o, x, h => by
    cases x <;> simp only [eqP, Bool.and_eq_true, beq_iff_eq] at h <;> first | (cases h; done) | skip
    rw [h.1.1.1, h.1.1.2, h.1.2, eqPss_sound h.2]
  | .agg a, x, h => by
    cases x <;> simp only [eqP] at h <;> first | (cases h; done) | skip
    rw [eqPs_sound h]
  | .fn f a, x, h => by
    cases x <;> simp only [eqP, Bool.and_eq_true, beq_iff_eq] at h <;> first | (cases h; done) | skip
    rw [h.1, eqPs_sound h.2]
  | .ifc t a, x, h => by
    cases x <;> simp only [eqP, Bool.and_eq_true, beq_iff_eq] at h <;> first | (cases h; done) | skip
    rw [h.1, eqP_sound h.2]
  | .tup a, x, h => by
    cases x <;> simp only [eqP] at h <;> first | (cases h; done) | skip
    rw [eqPs_sound h]
theorem eqPs_sound : ∀ {a b : List P}, eqPs a b = true → a = b
  | [], x, h => by cases x <;> simp_all [eqPs]
  | a :: l, x, h => by
    cases x <;> simp only [eqPs, Bool.and_eq_true] at h <;> first | (cases h; done) | skip
    rw [eqP_sound h.1, eqPs_sound h.2]
theorem eqPss_sound : ∀ {a b : List (List P)}, eqPss a b = true → a = b
  | [], x, h => by cases x <;> simp_all [eqPss]
  | a :: l, x, h => by
    cases x <;> simp only [eqPss, Bool.and_eq_true] at h <;> first | (cases h; done) | skip
    rw [eqPs_sound h.1, eqPss_sound h.2]
end

mutual
theorem eqD_sound : ∀ {a b : D}, eqD a b = true → a = b
  | .p a, x, h => by
    cases x <;> simp only [eqD] at h <;> first | (cases h; done) | skip
    rw [eqP_sound h]
  | .own w a, x, h => by
    cases x <;> simp only [eqD, Bool.and_eq_true, beq_iff_eq] at h <;> first | (cases h; done) | skip
    rw [h.1, eqPss_sound h.2]
  | .lp a b, x, h => by cases x <;> simp_all [eqD]
  | .ref a b, x, h => by cases x <;> simp_all [eqD]
  | .ms a b c d, x, h => by cases x <;> simp_all [eqD]
  | .mp a, x, h => by cases x <;> simp_all [eqD]
  | .agg a, x, h => by
    cases x <;> simp only [eqD] at h <;> first | (cases h; done) | skip
    rw [eqDs_sound h]
  | .fn f a, x, h => by
    cases x <;> simp only [eqD, Bool.and_eq_true, beq_iff_eq] at h <;> first | (cases h; done) | skip
    rw [h.1, eqDs_sound h.2]
  | .tup a, x, h => by
    cases x <;> simp only [eqD] at h <;> first | (cases h; done) | skip
    rw [eqDs_sound h]
  | .dead, x, h => by cases x <;> simp_all [eqD]
theorem eqDs_sound : ∀ {a b : List D}, eqDs a b = true → a = b
  | [], x, h => by cases x <;> simp_all [eqDs]
  | a :: l, x, h => by
    cases x <;> simp only [eqDs, Bool.and_eq_true] at h <;> first | (cases h; done) | skip
    rw [eqD_sound h.1, eqDs_sound h.2]
end

theorem eqEs_sound : ∀ {a b : List (P × D × Nat)}, eqEs a b = true → a = b
  | [], x, h => by cases x <;> simp_all [eqEs]
  | (a, b, c) :: l, x, h => by
    cases x with
    | nil => simp [eqEs] at h
    | cons q l' =>
      obtain ⟨d, e, f⟩ := q
      simp only [eqEs, Bool.and_eq_true, beq_iff_eq] at h
      rw [eqP_sound h.1.1.1, eqD_sound h.1.1.2, h.1.2, eqEs_sound h.2]
theorem eqBlk_sound {a b : Blk} (h : eqBlk a b = true) : a = b := by
  cases a <;> cases b <;> simp only [eqBlk, Bool.and_eq_true, beq_iff_eq] at h <;> first | (cases h; done) | rfl | skip
  · rw [eqDs_sound h]
  · rw [eqPs_sound h]
  · rw [eqEs_sound h.1, h.2]
theorem preBlks_sound : ∀ {a b : List Blk}, preBlks a b = true → ∃ e, b = a ++ e
  | [], b, _ => ⟨b, rfl⟩
  | x :: a, b, h => by
    cases b with
    | nil => simp [preBlks] at h
    | cons y b =>
      simp only [preBlks, Bool.and_eq_true] at h
      obtain ⟨e, he⟩ := preBlks_sound h.2
      exact ⟨e, by rw [eqBlk_sound h.1, he]; rfl⟩

section
variable {T : Program}

/-- deferred calls: none, or one that turns a panic into a number -/
def dfrP (caught : FuncId → Option TypeId) : List (FuncId × List D) → Ex → List Blk → (Ex → List Blk → Prop) → Prop
  | [], x, h, k => k x h
  | [(f, [.ref id off])], x, h, k => match caught f, x with
    | some _, .ret => k .ret h
    | some _, .normal => k .normal h
    | some t, .pan (.sc (.iface t' (.int kd n))) => t = t' ∧ ∃ ds, getL h id = some (.cells ds) ∧ off < ds.length ∧ k .ret (setL h id (.cells (setL ds off (.p (.sc (.int kd n))))))
    | _, _ => False
  | _, _, _, _ => False

structure RunOK (T : Program) (sub : RunF) : Prop where
  call : ∀ f ds h r h', sub.call f ds h = some (r, h') → CallOK T f ds h fun r' h'' => r' = r ∧ h'' = h'
  keep : ∀ f ds h r, sub.keep f ds h = some r → CallOK T f ds h fun r' h'' => r' = r ∧ h'' = h

theorem pureCall_ok {sub : RunF} (hs : RunOK T sub) {f : FuncId} {ds : List D} {r : Res} {h : List Blk} (e : pureCall sub f ds h = some r) : CallOK T f ds h fun r' h' => r' = r ∧ h' = h := by
  unfold pureCall at e
  split at e
  · rename_i ps hps
    split at e
    · rename_i p hr
      simp only [Option.some.injEq] at e; subst e
      exact (callMono_ok _ _ _ _ (PureGood 1 (.ret (.p p))) (fun r' h' ⟨e1, e2⟩ => by subst e1 e2; exact ⟨p, [], rfl, rfl⟩) (hs.call _ _ _ _ _ hr)).pure hps h
    · rename_i p hr
      simp only [Option.some.injEq] at e; subst e
      exact (callMono_ok _ _ _ _ (PureGood 1 (.pan p)) (fun r' h' ⟨e1, e2⟩ => by subst e1 e2; exact rfl) (hs.call _ _ _ _ _ hr)).pure hps h
    · cases e
  · exact hs.keep _ _ _ _ e

theorem AO_sim {α : Type} {caught : FuncId → Option TypeId} {sub : RunF} (hs : RunOK T sub) (n : Nat) (v : α) :
    Sim (AO (α := α) caught sub n) (AP (CallOK T) (dfrP caught)) (fun x y => x = some v → y) where
  fail := fun h => by cases h
  br b x y x' y' hx hy := by
    cases b with
    | true => exact fun h => pbr_true (hx h)
    | false => exact fun h => pbr_false (hy h)
  req c _ x x' hx := fun h => by
    simp only [AO] at h
    split at h
    · rename_i hc; exact preq_mk hc (hx h)
    · cases h
  row rows i k k' hk := fun h => by
    simp only [AO] at h
    split at h
    · rename_i r hr; exact prow_mk r hr (hk r h)
    · cases h
  loop body body' hb st k k' hk := by
    intro h
    simp only [AO] at h
    show ploop body' st k'
    intro X hX
    have key : ∀ (n : Nat) (st : St), loopO body n st k = some v → X st := by
      intro n
      induction n with
      | zero => intro st h; simp [loopO] at h
      | succ n ih =>
        intro st h
        simp only [loopO] at h
        refine hX st (hb st _ _ (fun x st' => ?_) h)
        cases x with
        | normal => exact ih st'
        | exit id => exact hk _ _
        | ret => exact hk _ _
        | pan p => exact hk _ _
    exact key n st h
  call f ds h k k' hk := fun e => by
    simp only [AO] at e
    split at e
    · rename_i r h1 hr
      exact callMono_ok f ds h _ _ (fun r' h' ⟨e1, e2⟩ => by subst e1 e2; exact hk _ _ e) (hs.call f ds h r h1 hr)
    · cases e
  calln f ds h k k' hk := fun e => by
    simp only [AO] at e
    split at e
    · rename_i r hr
      show pcalln _ _ _ _ _
      unfold pcalln
      refine ⟨r, [], ?_, by rw [List.append_nil]; exact hk _ _ e⟩
      rw [List.append_nil]
      exact pureCall_ok hs hr
    split at e
    · rename_i r h1 hr
      split at e
      · rename_i hp
        obtain ⟨ex, rfl⟩ := preBlks_sound hp
        show pcalln _ _ _ _ _
        unfold pcalln
        exact ⟨r, ex, hs.call f ds h r _ hr, hk _ _ e⟩
      · cases e
    · cases e
  dfr df x h k k' hk := fun e => by
    simp only [AO] at e
    show dfrP caught df x h k'
    unfold dfrO at e
    unfold dfrP
    split at e
    · exact hk _ _ e
    · rename_i f id off x h k
      simp only [] at e ⊢
      split at e
      · rename_i t hc; simp only [hc]; exact hk _ _ e
      · rename_i t hc; simp only [hc]; exact hk _ _ e
      · rename_i t t' kd n hc
        simp only [hc]
        split at e
        · rename_i ht
          refine ⟨ht, ?_⟩
          split at e
          · rename_i ds hds
            split at e
            · rename_i hl; exact ⟨ds, hds, hl, hk _ _ e⟩
            · cases e
          · cases e
        · cases e
      · cases e
    · cases e

/-- a pure call leaves the memory -/
theorem runP_heap (caught : FuncId → Option TypeId) (sub : RunF) (fn : Func) (ps : List P) (h : List Blk) (v : Res × List Blk) :
    (efn T (AO caught sub 1000) [] fn (ps.map .p) [] fun
      | .ret d, h1 => match frzA 1000 d h1 with
        | some (p, _) => some (.ret (.p p), h)
        | none => none
      | .pan p, _ => some (.pan p, h)) = some v → v.2 = h := by
  have S : Sim (AO caught sub 1000) (AO caught sub 1000) (fun (x : RO) (_ : RO) => ∀ v, x = some v → v.2 = h) := {
    fail := fun v e => by cases e
    br := fun b x y x' y' hx hy v e => by cases b with | true => exact hx v e | false => exact hy v e
    req := fun c _ x x' hx v e => by
      simp only [AO] at e
      split at e
      · exact hx v e
      · cases e
    row := fun rows i k k' hk v e => by
      simp only [AO] at e
      split at e
      · exact hk _ v e
      · cases e
    loop := fun body body' hb st k k' hk => by
      simp only [AO]
      have key : ∀ (n : Nat) (st : St) (v : Res × List Blk), loopO body n st k = some v → v.2 = h := by
        intro n
        induction n with
        | zero => intro st v e; simp [loopO] at e
        | succ n ih =>
          intro st v e
          simp only [loopO] at e
          refine hb st _ (fun x st => none) (fun x st' v e => ?_) v e
          cases x with
          | normal => exact ih st' v e
          | exit id => exact hk _ _ v e
          | ret => exact hk _ _ v e
          | pan p => exact hk _ _ v e
      exact key 1000 st
    call := fun f ds h k k' hk v e => by
      simp only [AO] at e
      split at e
      · exact hk _ _ v e
      · cases e
    calln := fun f ds h k k' hk v e => by
      simp only [AO] at e
      split at e
      · exact hk _ _ v e
      split at e
      · split at e
        · exact hk _ _ v e
        · cases e
      · cases e
    dfr := fun df x h k k' hk v e => by
      simp only [AO] at e
      unfold dfrO at e
      repeat' split at e
      all_goals first | exact hk _ _ v e | (cases e; done) }
  refine S.efn (k' := fun _ _ => none) (fun r h1 v e => ?_) v
  cases r with
  | ret d =>
    simp only [] at e
    split at e
    · simp only [Option.some.injEq] at e; subst e; rfl
    · cases e
  | pan p => simp only [Option.some.injEq] at e; subst e; rfl

/-- functions are sound -/
def FnOK (T : Program) (caught : FuncId → Option TypeId) : Prop := ∀ (es : List Tmp) (f : FuncId) (fn : Func) (ds : List D) (h : List Blk) (k : Res → List Blk → Prop), T.funcs[f]? = some fn →
  efn T (AP (CallOK T) (dfrP caught)) es fn ds h k → CallOK T f ds h k
/-- functions whose summary was proved by hand -/
structure SpecOK (T : Program) (mode : FuncId → FuncId → RMode) : Prop where
  spec : ∀ g f F, mode g f = .spec F → ∀ ds h r h', F ds h = some (r, h') → CallOK T f ds h fun r' h'' => r' = r ∧ h'' = h'
  keep : ∀ g f F, mode g f = .keep F → ∀ ds h r, F ds h = some r → CallOK T f ds h fun r' h'' => r' = r ∧ h'' = h

theorem runP_ok {caught : FuncId → Option TypeId} (hE : FnOK T caught) {sub : RunF} (hs : RunOK T sub) {f : FuncId} {fn : Func} (hf : T.funcs[f]? = some fn) {ps : List P} {h h1 : List Blk} {r : Res}
    (e : runP T sub caught fn ps h = some (r, h1)) : h1 = h ∧ CallOK T f (ps.map .p) [] (PureGood 1000 r) := by
  have key : ∀ v : Res × List Blk, runP T sub caught fn ps h = some v → efn T (AP (CallOK T) (dfrP caught)) [] fn (ps.map .p) [] (fun r' h' => v.2 = h ∧ PureGood 1000 v.1 r' h') := by
    intro v
    unfold runP
    refine (AO_sim hs 1000 v).efn (fun r' h' e => ?_)
    cases r' with
    | ret d =>
      simp only [] at e
      split at e
      · rename_i p h2 hp
        simp only [Option.some.injEq] at e; subst e
        exact ⟨rfl, p, _, hp, rfl⟩
      · cases e
    | pan p =>
      simp only [Option.some.injEq] at e; subst e
      exact ⟨rfl, rfl⟩
  by_cases hh : h1 = h
  · exact ⟨hh, callMono_ok _ _ _ _ _ (fun r' h' x => x.2) (hE _ f fn _ _ _ hf (key _ e))⟩
  · refine absurd ?_ hh
    -- nothing else can come of it
    have : ∀ v, runP T sub caught fn ps h = some v → v.2 = h := by
      intro v
      unfold runP
      exact runP_heap caught sub fn ps h v
    exact this _ e

theorem runI_ok {caught : FuncId → Option TypeId} (hE : FnOK T caught) {sub : RunF} (hs : RunOK T sub) {f : FuncId} {fn : Func} (hf : T.funcs[f]? = some fn) {es : List Tmp} {ds : List D} {h h1 : List Blk} {r : Res}
    (e : runI T sub caught es fn ds h = some (r, h1)) : CallOK T f ds h fun r' h' => r' = r ∧ h' = h1 := by
  have key : ∀ v : Res × List Blk, runI T sub caught es fn ds h = some v → efn T (AP (CallOK T) (dfrP caught)) es fn ds h (fun r' h' => r' = v.1 ∧ h' = v.2) := by
    intro v
    unfold runI
    refine (AO_sim hs 1000 v).efn (fun r' h' e => ?_)
    simp only [Option.some.injEq] at e; subst e
    exact ⟨rfl, rfl⟩
  exact hE _ f fn _ _ _ hf (key _ e)

theorem run_ok {caught : FuncId → Option TypeId} {mode : FuncId → FuncId → RMode} (hE : FnOK T caught) (hS : SpecOK T mode) : ∀ (d : Nat) (g : FuncId), RunOK T (run T caught mode d g)
  | 0, g => ⟨fun f ds h r h' e => by simp [run] at e, fun f ds h r e => by simp [run] at e⟩
  | d + 1, g => ⟨fun f ds h r h' e => by
    have ih := run_ok hE hS d f
    simp only [run] at e
    split at e
    · cases e
    rename_i fn hf
    split at e
    · rename_i F hF
      exact hS.spec g f F hF ds h r h' e
    · rename_i F hF
      rw [Option.map_eq_some_iff] at e
      obtain ⟨r1, e1, e2⟩ := e
      simp only [Prod.mk.injEq] at e2
      obtain ⟨rfl, rfl⟩ := e2
      exact hS.keep g f F hF ds h r1 e1
    · exact runI_ok hE ih hf e
    · exact runI_ok hE ih hf e
    · split at e
      · rename_i ps h1 hfr
        obtain ⟨rfl, hc⟩ := runP_ok hE ih hf e
        exact hc.frozen hfr
      · cases e
    · split at e
      · rename_i ps hps
        obtain ⟨rfl, hc⟩ := runP_ok hE ih hf e
        exact hc.pure hps h'
      · exact runI_ok hE ih hf e,
   fun f ds h r e => by
    simp only [run] at e
    split at e
    · cases e
    split at e
    · rename_i F hF
      exact hS.keep g f F hF ds h r e
    · cases e⟩
end
end Go.AE
end

section
namespace Go.AE
open Go
set_option linter.unusedSimpArgs false
set_option linter.unusedVariables false
section
variable {T : Program} {B : Base} {C : Ctx} {st : St} {a : Act} {w w' : World} {o : Oper}
variable {CALL : FuncId → List D → List Blk → (Res → List Blk → Prop) → Prop} {esc ap : List Tmp} {caught : FuncId → Option TypeId}

/-- a deferred function that turns a panic of a type of integers into a number behind a pointer -/
structure CaughtOK (T : Program) (f : FuncId) (t : TypeId) : Prop where
  fn : ∃ fn, T.funcs[f]? = some fn ∧ fn.body.isNone = false
  ret : ∀ (ad : Addr) (w : World), CallsD T f #[.pointer (some ad)] .returning w fun e u' w' => (∃ v, e = .returned v) ∧ u' = .returning ∧ w' = w
  pan : ∀ (b o : Nat) (w : World) (kd : IntKind) (n : Int), (w.cell? ⟨b, o, none⟩).isSome = true → w.frozen? ⟨b, o, none⟩ = false →
    CallsD T f #[.pointer (some ⟨b, o, none⟩)] (.panicking [{ v := .iface t (.int kd n), recovered := false }]) w fun e u' w' =>
      (∃ v, e = .returned v) ∧ u' = .panicking [{ v := .iface t (.int kd n), recovered := true }] ∧ w' = w.setCells b o [.int kd n]

theorem ret_ok {fn : Func} {h : List Blk} {C' : Ctx} {w0 : World} {k : Res → List Blk → Prop} (R : Rel (baseOf C w0 h) C' st a w []) (hk : ∃ ds', resD T st fn.results.toList = some ds' ∧ ((∃ d, ds' = [d] ∧ okArg d = true ∧ k (.ret d) st.h) ∨ ((∀ d, ds' ≠ [d]) ∧ okArgs ds' = true ∧ k (.ret (.tup (ds'.map down1))) st.h))) : ∃ v, (results fn a.tmps).run T w = .ok v w ∧ ∃ C'' r h', k r h' ∧ HPost C w0 h C'' w h' r (.returned v) := by
  obtain ⟨ds', hres', hk⟩ := hk
  rcases hk with ⟨d, rfl, hokd, hk⟩ | ⟨hne, hoks, hk⟩
  · 
    obtain ⟨vs', e1, e2, e3⟩ := res_many R hres'
    have hl := e2.length
    obtain ⟨r, hrr⟩ : ∃ r, fn.results.toList = [r] := by
      cases hq : fn.results.toList with
      | nil => rw [hq] at e3; simp at e3; rw [e3] at hl; simp at hl
      | cons r rs => cases rs with
        | nil => exact ⟨r, rfl⟩
        | cons r2 rs2 => rw [hq] at e3; simp at e3; rw [e3] at hl; simp at hl
    rw [hrr] at hres' e1
    obtain ⟨v, st2, q1, q2, q3, q4⟩ := res_one R hres'
    have : vs' = [v] := by simp [List.mapM_cons, q1, Result.andThen] at e1; exact e1.symm
    subst this
    refine ⟨v, by rw [run_results (by rw [hrr]; exact e1)]; simp, noBox C', .ret d, st.h, hk, v, rfl, hokd, ?_⟩
    have := q2.finish hokd
    rw [q3] at this; exact this
  · obtain ⟨vs', e1, e2, e3⟩ := res_many R hres'
    have hl := e2.length
    have h1 : vs'.length ≠ 1 := by
      intro e
      rw [e] at hl
      match ds', hl, hne with
      | [d], _, hne => exact hne d rfl
    refine ⟨.tuple vs'.toArray, by rw [run_results e1, dif_neg h1], noBox C', .ret (.tup (ds'.map down1)), st.h, hk, _, rfl, ?_, ?_⟩
    · simp only [okArg]; exact okArgs_down1 hoks
    · exact (R.push (d := .tup (ds'.map down1)) (v := .tuple vs'.toArray) rfl (by simp only [RepD]; exact ⟨_, rfl, by simpa using e2.down1⟩)).finish (by simp only [okArg]; exact okArgs_down1 hoks)

theorem run_invoke (hN : NoNum T) {f : FuncId} {fn : Func} (hf : T.funcs[f]? = some fn) (hb : fn.body.isNone = false) (cs args : Array Value) (w : World) :
    (invoke (.fn (.func f) cs) args).run T w = .ok (.enter f (args ++ cs)) w := by
  unfold invoke callFunc
  simp only [Sem.run_bind, run_program, Result.andThen_ok, hf, hN f fn hf, hb, Bool.false_eq_true, if_false, Sem.run_pure]

theorem dfrP_nil (x : Ex) (h : List Blk) (k : Ex → List Blk → Prop) : dfrP caught [] x h k = k x h := by unfold dfrP; rfl

/-- a function's end -/
def finK (T : Program) (fn : Func) (st : St) (k : Res → List Blk → Prop) : Ex → List Blk → Prop := fun x h => match x with
      | .pan p => k (.pan p) h
      | .ret | .normal => match resD T { st with h } fn.results.toList with
        | some ds => match ds with
          | [d] => if okArg d then k (.ret d) h else False
          | ds => if okArgs ds then k (.ret (.tup (ds.map down1))) h else False
        | none => False
      | _ => False

theorem finK_ret {fn : Func} {k : Res → List Blk → Prop} {x : Ex} {h : List Blk} (hx : x = .ret ∨ x = .normal) (hk : finK T fn st k x h) :
    ∃ ds', resD T { st with h } fn.results.toList = some ds' ∧ ((∃ d, ds' = [d] ∧ okArg d = true ∧ k (.ret d) h) ∨ ((∀ d, ds' ≠ [d]) ∧ okArgs ds' = true ∧ k (.ret (.tup (ds'.map down1))) h)) := by
  unfold finK at hk
  rcases hx with rfl | rfl <;>
  · simp only [] at hk
    split at hk
    case h_2 => exact hk.elim
    rename_i ds' hres
    refine ⟨ds', hres, ?_⟩
    split at hk
    · rename_i d
      split at hk
      · rename_i ho; exact .inl ⟨d, rfl, ho, hk⟩
      · exact hk.elim
    · rename_i hne
      split at hk
      · rename_i ho; exact .inr ⟨fun d e => hne d e, ho, hk⟩
      · exact hk.elim

theorem dfrP_cons {q : FuncId × List D} {df : List (FuncId × List D)} {x : Ex} {h : List Blk} {k : Ex → List Blk → Prop} (hk : dfrP caught (q :: df) x h k) :
    ∃ f' id off t, q = (f', [.ref id off]) ∧ df = [] ∧ caught f' = some t ∧ ((x = .ret ∧ k .ret h) ∨ (x = .normal ∧ k .normal h) ∨
      ∃ kd n ds, x = .pan (.sc (.iface t (.int kd n))) ∧ getL h id = some (.cells ds) ∧ off < ds.length ∧ k .ret (setL h id (.cells (setL ds off (.p (.sc (.int kd n))))))) := by
  obtain ⟨f, l⟩ := q
  cases df with
  | cons q2 df2 => unfold dfrP at hk; split at hk <;> first | exact hk.elim | simp_all
  | nil =>
    cases l with
    | nil => unfold dfrP at hk; split at hk <;> first | exact hk.elim | simp_all
    | cons d l =>
      cases l with
      | cons d2 l2 => unfold dfrP at hk; split at hk <;> first | exact hk.elim | simp_all
      | nil =>
        cases d with
        | ref id off =>
          unfold dfrP at hk
          simp only [] at hk
          cases hc : caught f with
          | none => rw [hc] at hk; simp at hk
          | some t =>
            rw [hc] at hk
            refine ⟨f, id, off, t, rfl, rfl, hc, ?_⟩
            cases x with
            | ret => exact .inl ⟨rfl, hk⟩
            | normal => exact .inr (.inl ⟨rfl, hk⟩)
            | exit id => exact hk.elim
            | pan p =>
              right; right
              split at hk
              · rename_i e; cases e
              · rename_i e; cases e
              · rename_i t1 t' kd n e1 e2
                simp only [Option.some.injEq] at e1; subst e1
                obtain ⟨rfl, ds, h1, h2, h3⟩ := hk
                exact ⟨kd, n, ds, e2, h1, h2, h3⟩
              · exact hk.elim
        | _ => unfold dfrP at hk; simp only [] at hk

theorem setN_one {α : Type} (l : List α) (i : Nat) (x : α) : setN l i [x] = setL l i x := by simp [setN]

theorem efn_soundD (hN : NoNum T) (hC : CallSound T CALL) (hD : DrawSound T CALL (dfrP caught)) (hCa : ∀ f t, caught f = some t → CaughtOK T f t)
    {es : List Tmp} {f : FuncId} {fn : Func} (hf : T.funcs[f]? = some fn) {ds : List D} {h : List Blk} {k : Res → List Blk → Prop}
    (he : efn T (AP CALL (dfrP caught)) es fn ds h k) : CallOK T f ds h k := by
  intro C w vs hr hok hlo H
  unfold efn at he
  split at he
  · exact he.elim
  rename_i body hbody
  have R0 := Rel.start fn H hr hlo
  refine calls_of_wp_defers hf hbody (wp_mono (ecode_sound hN hC hD body _ C _ _ w he R0) fun e a' w' hq => ?_)
  obtain ⟨x, st', C', hk, hx⟩ := hq
  -- the deferred calls
  have hk' : dfrP caught st'.df x st'.h (finK T fn st' k) := hk
  have one : ∀ q df2, st'.df = q :: df2 → (∀ C1 : Ctx, ∀ ex : List (D × Value), Rel (baseOf C w h) C' st' a' w' ex → ∀ f' id off, q = (f', [.ref id off]) → df2 = [] →
      ∃ cs args, a'.defers = [{ target := .fn (.func f') cs, args }] ∧ args ++ cs = #[.pointer (some ⟨C'.β (.blk id), off, none⟩)]) := by
    intro q df2 hdf C1 ex R f' id off hq hdf2
    subst hq hdf2
    obtain ⟨d, hdd⟩ : ∃ d, a'.defers = [d] := by
      have := R.defs; rw [hdf] at this
      cases hq : a'.defers with
      | nil => rw [hq] at this; simp at this
      | cons d l => cases l with
        | nil => exact ⟨d, rfl⟩
        | cons d2 l2 => rw [hq] at this; simp at this
    obtain ⟨_, cs, htar, hrep⟩ := R.defr 0 (f', [.ref id off]) d (by rw [hdf]; rfl) (by rw [hdd]; rfl)
    simp only [RepDs, RepD] at hrep
    obtain ⟨v, vs', hv, ⟨_, rfl⟩, rfl⟩ := hrep
    obtain ⟨tg, args⟩ := d
    simp only at htar hv
    subst htar
    exact ⟨cs, args, hdd, by apply Array.ext'; simpa using hv⟩
  have returning : ∀ (R : Rel (baseOf C w h) C' st' a' w' []), x = .ret ∨ x = .normal → Leaves T fn a'.tmps (fun e w' => ∃ C'' r h', k r h' ∧ HPost C w h C'' w' h' r e) a'.defers .returning w' := by
    intro R hxx
    cases hdf : st'.df with
    | nil =>
      have hdd : a'.defers = [] := by have := R.defs; rw [hdf] at this; exact List.length_eq_zero_iff.1 this.symm
      rw [hdf, dfrP_nil] at hk'
      rw [hdd]
      exact ret_ok R (finK_ret hxx hk')
    | cons q df2 =>
      rw [hdf] at hk'
      obtain ⟨f', id, off, t, hq, hd2, hcf, hk2⟩ := dfrP_cons hk'
      obtain ⟨cs, args, hdd, hargs⟩ := one q df2 hdf C' [] R f' id off hq hd2
      obtain ⟨⟨fn', hf', hb'⟩, hret, _⟩ := hCa f' t hcf
      rw [hdd]
      refine leaves_cons (by simp) (by rw [run_invoke hN hf' hb', hargs]) ((hret _ w').mono ?_)
      rintro e u' w2 ⟨⟨v, rfl⟩, rfl, rfl⟩
      show Leaves T fn a'.tmps _ [] .returning w2
      refine ret_ok R (finK_ret hxx ?_)
      rcases hk2 with ⟨rfl, hk2⟩ | ⟨rfl, hk2⟩ | ⟨kd, n, ds, rfl, _⟩
      · exact hk2
      · exact hk2
      · rcases hxx with h | h <;> cases h
  cases x with
  | normal =>
    obtain ⟨rfl, R⟩ := hx
    exact returning R (.inr rfl)
  | ret =>
    obtain ⟨rfl, R⟩ := hx
    exact returning R (.inl rfl)
  | exit id =>
    exfalso
    cases hdf : st'.df with
    | nil => rw [hdf, dfrP_nil] at hk'; exact hk'
    | cons q df2 =>
      rw [hdf] at hk'
      obtain ⟨f', id, off, t, hq, hd2, hcf, hk2⟩ := dfrP_cons hk'
      rcases hk2 with ⟨h, _⟩ | ⟨h, _⟩ | ⟨kd, n, ds, h, _⟩ <;> cases h
  | pan p =>
    obtain ⟨v, rfl, R⟩ := hx
    show Leaves T fn a'.tmps _ a'.defers (.panicking [{ v, recovered := false }]) w'
    cases hdf : st'.df with
    | nil =>
      have hdd : a'.defers = [] := by have := R.defs; rw [hdf] at this; exact List.length_eq_zero_iff.1 this.symm
      rw [hdf, dfrP_nil] at hk'
      rw [hdd]
      exact ⟨noBox C', .pan p, st'.h, hk', v, rfl, R.finish (by simp [okArg])⟩
    | cons q df2 =>
      rw [hdf] at hk'
      obtain ⟨f', id, off, t, hq, hd2, hcf, hk2⟩ := dfrP_cons hk'
      obtain ⟨cs, args, hdd, hargs⟩ := one q df2 hdf C' _ R f' id off hq hd2
      rcases hk2 with ⟨h, _⟩ | ⟨h, _⟩ | ⟨kd, n, cds, hp, hcds, hlt, hk2⟩
      · cases h
      · cases h
      · simp only [Ex.pan.injEq] at hp; subst hp
        obtain ⟨⟨fn', hf', hb'⟩, _, hpan⟩ := hCa f' t hcf
        have hv0 := R.exs 0 (.p (.sc (.iface t (.int kd n))), v) rfl
        simp only [RepD, RepP] at hv0
        obtain ⟨rfl, _⟩ := hv0
        have R1 := R.drop
        have hkc : cellsOf st' (.blk id) = some cds := by simp [cellsOf, hcds]
        obtain ⟨d0, hd0⟩ := getL_some hlt
        obtain ⟨_, u0, hu0, _, _, hfz⟩ := R1.cells (.blk id) cds off d0 hkc hd0
        rw [hdd]
        refine leaves_cons (by simp) (by rw [run_invoke hN hf' hb', hargs]) ((hpan _ _ w' kd n (by rw [hu0]; rfl) hfz).mono ?_)
        rintro e u' w2 ⟨⟨v2, rfl⟩, rfl, rfl⟩
        show Leaves T fn a'.tmps _ [] .returning _
        have R2 := R1.store (k := .blk id) (xs := [.p (.sc (.int kd n))]) (vs := [.int kd n]) (off := off) hkc (by simp [RepDs, RepD, RepP, plain]) (by simp [isCell])
          (fun i x hx => by cases i with | zero => (simp only [getL, Option.some.injEq] at hx; subst hx; rfl) | succ i => simp [getL] at hx) (by simp only [List.length_cons, List.length_nil]; omega) (ex' := []) (fun i => i) (fun i j e => e) (fun j q hq => by simp [getL] at hq)
          (fun i x v hx _ => by cases i with | zero => (simp only [getL, Option.some.injEq] at hx; subst hx; exact .inl rfl) | succ i => simp [getL] at hx)
        rw [setN_one] at R2
        exact ret_ok R2 (finK_ret (.inl rfl) hk2)

theorem fnOK (hN : NoNum T) (hm : T.follows .mixedOrders = true) (hCa : ∀ f t, caught f = some t → CaughtOK T f t) : FnOK T caught := fun es f fn ds h k hf he =>
  efn_soundD hN (fun _ _ _ _ h => h) (draw_sound hN hm (fun _ _ _ _ h => h) callMono_ok) hCa hf he
end
end Go.AE
end

section
namespace Go.AE
open Go
set_option linter.unusedSimpArgs false
set_option linter.unusedVariables false
section
variable {T : Program} {B : Base} {C : Ctx} {st : St} {a : Act} {w w' : World} {o : Oper}
variable {CALL : FuncId → List D → List Blk → (Res → List Blk → Prop) → Prop} {DFR : List (FuncId × List D) → Ex → List Blk → (Ex → List Blk → Prop) → Prop} {esc ap : List Tmp}

/-- rows, one behind the other -/
theorem flat_rep {Φ : Nat → Nat → Option Value} {sz : Nat} : ∀ {rows : List (List P)} {vs : List Value}, vs.length = rows.length * sz →
    (∀ i row, getL rows i = some row → row.length = sz ∧ ∀ j p, getL row j = some p → ∃ u, vs[i * sz + j]? = some u ∧ RepP Φ p u) → RepPs Φ rows.flatten vs
  | [], vs, h, _ => by simp at h; subst h; simp [RepPs]
  | r :: rs, vs, h, H => by
    obtain ⟨h0, h1⟩ := H 0 r rfl
    have hl : vs.length = sz + rs.length * sz := by rw [h, List.length_cons, Nat.succ_mul, Nat.add_comm]
    have hs : vs = vs.take sz ++ vs.drop sz := (List.take_append_drop _ _).symm
    rw [List.flatten_cons, hs]
    refine RepPs.mk (by simp [hl, h0]; 
                        have := flat_len (rs := rs) (sz := sz) (fun i row hi => (H (i + 1) row (by simpa [getL] using hi)).1); omega) fun i p v hp hv => ?_
    rw [← hs] at hv
    by_cases hi : i < r.length
    · rw [getL_append_left hi] at hp
      obtain ⟨u, e1, e2⟩ := h1 i p hp
      rw [show 0 * sz + i = i by omega] at e1
      rw [e1, Option.some.injEq] at hv; subst hv; exact e2
    · have ih := flat_rep (Φ := Φ) (sz := sz) (rows := rs) (vs := vs.drop sz) (by simp [hl]) fun i row hrow => by
        obtain ⟨g0, g1⟩ := H (i + 1) row (by simpa [getL] using hrow)
        refine ⟨g0, fun j p hp => ?_⟩
        obtain ⟨u, e1, e2⟩ := g1 j p hp
        refine ⟨u, ?_, e2⟩
        rw [List.getElem?_drop, ← e1]; congr 1; rw [Nat.succ_mul]; omega
      rw [getL_eq, List.getElem?_append_right (by omega), ← getL_eq] at hp
      obtain ⟨u, e1, e2⟩ := ih.get hp
      rw [List.getElem?_drop, show sz + (i - r.length) = i by omega] at e1
      rw [e1, Option.some.injEq] at hv; subst hv; exact e2
where
  flat_len {rs : List (List P)} {sz : Nat} (H : ∀ i row, getL rs i = some row → row.length = sz) : (rs.map List.length).sum = rs.length * sz := by
    induction rs with
    | nil => simp
    | cons r rs ih =>
      have h0 := H 0 r rfl
      have := ih fun i row h => H (i + 1) row (by simpa [getL] using h)
      simp [h0, this, Nat.succ_mul, Nat.add_comm]

/-- the world draws -/
theorem Rel.drew {ex : List (D × Value)} (R : Rel B C st a w ex) : Rel B C st a w.drew ex := by
  have := R.world (w' := w.drew) (Φ' := C.Φ) (fun _ _ => rfl) (Nat.le_refl _) rfl rfl rfl (Le.refl _) (fun _ _ _ => rfl) R.sub
  exact this

theorem wpOps_val {T : Program} {ops : Array Oper} {Q : Exit → Act → World → Prop} {i : Nat} {rest : List Nat} {o : Oper} {a : Act} {w w' : World} {v : Value} (ho : ops[i]? = some o) (hg : o.guard = none)
    (hr : (execOp a.eval o).run T w = .ok (.value v) w') (h : wpOps T ops Q rest (a.put o.dst v) w') : wpOps T ops Q (i :: rest) a w := by
  simp only [wpOps, ho, Region.wanted, hg, if_true]
  left
  unfold Oper.wp
  rw [hr]
  exact h

theorem zero_i {e : TypeId} {i : TypeInfo} {zv : Value} (hi : T.info? e = some i) (hzv : ∀ w, (zeroValue e).run T w = .ok zv w) (w : World) : i.zero = some zv := by
  have := hzv w
  simp only [zeroValue, Sem.run_bind, run_typeInfoT hi, Result.andThen_ok] at this
  cases hq : i.zero with
  | none => rw [hq] at this; simp at this
  | some q => rw [hq] at this; simp at this; rw [this]

/-- slices.Clone's last line: a new array of one's own -/
theorem clone_region {t e : TypeId} {i : TypeInfo} {z : P} (he : elemT T t = some e) (hi : T.info? e = some i) (hz : zeroT T e = some z) (hzl : z.cells.length = i.size) (hsz : sizeT T e = i.size) (hu : notIntT T t = true) (hib : i.bytes ≤ 2 ^ 20)
    {o0 o1 o2 o3 : Oper} (p0 : o0.op = .buildSlice t 0 #[] ∧ o0.guard = none ∧ o0.dst = some 5) (p1 : o1.op = .move (.tmp 0) ∧ o1.guard = none ∧ o1.dst = some 6)
    (p2 : o2.op = .call { callee := .builtin .append, args := #[.tmp 5, .tmp 6], argTypes := #[t, t] } ∧ o2.guard = none ∧ o2.dst = some 7) (p3 : o3.op = .assign (.tmp 7) ∧ o3.guard = none ∧ o3.dst = some 2)
    (R : Rel B C st a w []) (hlen : st.r.length = 8) {rows : List (List P)} (h0 : getL st.r 0 = some (.p (.sl i.size rows))) (hne : rows ≠ []) (hsm : rows.length ≤ 2 ^ 20) {Q : Exit → Act → World → Prop}
    (hQ : ∀ C' st' a' w', Rel B C' st' a' w' [] → getL st'.r 2 = some (.ms i.size st.h.length 0 rows.length) → st'.h = st.h ++ [.cells (rows.flatten.map .p)] → st'.df = st.df → Q .normal a' w') :
    (Code.region 3 #[o0, o1, o2, o3] false).wp T Q a w := by
  obtain ⟨p01, p02, p03⟩ := p0
  obtain ⟨p11, p12, p13⟩ := p1
  obtain ⟨p21, p22, p23⟩ := p2
  obtain ⟨p31, p32, p33⟩ := p3
  have hue := elemT_spec he
  obtain ⟨zv, hzv, hzp, rfl, hznt⟩ := zeroT_spec hz
  have hzi := zero_i hi hzv w
  refine wp_region ?_
  show wpOps T _ _ [0, 1, 2, 3] _ _
  -- an empty array
  obtain ⟨cells, _, _, c3, hrun⟩ := buildSlice_run (o := o0) (parts := #[]) (len := 0) (cs := []) R p01 he hz ⟨by rw [hzl, hsz], by simp⟩ (by simp [fillD])
  refine wpOps_val (o := o0) rfl p02 hrun ?_
  rw [p03]
  have R1 := R.world (w' := w.alloc (.cells cells e)) (Φ' := C.Φ) (fun b hb => heap_alloc_lt hb) (by rw [size_alloc]; omega) rfl rfl rfl (Le.refl _) (fun _ _ _ => rfl)
    (fun b o v h => by
      have := R.sub b o v h
      rw [cell?_of_heap (heap_alloc_lt (cell?_lt this))]; exact this)
  have R2 := (R1.push (d := .dead) (v := .slice (some ⟨w.heap.size, 0, none⟩) 0 0) rfl (by simp [RepD])).put (dst := some 5)
  generalize hw1 : w.alloc (.cells cells e) = w1 at R2
  have g0 : getL (putR st (some 5) .dead).r 0 = some (.p (.sl i.size rows)) := by simp [putR, getL_setL, h0]
  have hl2 : (putR st (some 5) .dead).r.length = 8 := by simp [putR, length_setL, hlen]
  have e5 : (a.put (some 5) (.slice (some ⟨w.heap.size, 0, none⟩) 0 0)).eval (.tmp 5) = .slice (some ⟨w.heap.size, 0, none⟩) 0 0 := by
    have := R.len
    simp [Act.eval, Act.put]
    omega
  -- what is cloned
  have hx1 : ∀ w : World, (execOp (a.put (some 5) (.slice (some ⟨w.heap.size, 0, none⟩) 0 0)).eval o1).run T w = .ok (.value ((a.put (some 5) (.slice (some ⟨w.heap.size, 0, none⟩) 0 0)).eval (.tmp 0))) w := by
    intro w; unfold execOp; rw [p11]; rfl
  have hx1' : ∀ (a : Act) (w : World), (execOp a.eval o1).run T w = .ok (.value (a.eval (.tmp 0))) w := by
    intro a w; unfold execOp; rw [p11]; rfl
  refine wpOps_val (o := o1) rfl p12 (hx1' _ _) ?_
  rw [p13]
  generalize ha1 : a.put (some 5) (.slice (some ⟨w.heap.size, 0, none⟩) 0 0) = a1 at R2 e5
  have hrep : RepP C.Φ (.sl i.size rows) (a1.eval (.tmp 0)) := by
    have := R2.opd (.tmp 0)
    simp only [opdD, g0, Option.getD_some, RepD] at this
    exact this
  have R3 := (R2.push (d := .p (.sl i.size rows)) (v := a1.eval (.tmp 0)) rfl (by simp only [RepD]; exact hrep)).put (dst := some 6)
  have e5' : (a1.put (some 6) (a1.eval (.tmp 0))).eval (.tmp 5) = .slice (some ⟨w.heap.size, 0, none⟩) 0 0 := by
    rw [Act.eval_put (by rintro d' hd; simp only [Option.some.injEq] at hd; subst hd; simp)]; exact e5
  have e6 : (a1.put (some 6) (a1.eval (.tmp 0))).eval (.tmp 6) = a1.eval (.tmp 0) := by
    have := R2.len
    rw [hl2] at this
    simp [Act.eval, Act.put]
    omega
  generalize hv6 : a1.eval (.tmp 0) = v6 at R3 e5' e6 hrep
  generalize ha2 : a1.put (some 6) v6 = a2 at R3 e5' e6
  have ha1s : a1.tmps.size = 8 := by rw [R2.len, hl2]
  -- the append
  have hys := slYs (T := T) (C := C) (w := w1) R2.sub hrep
  obtain ⟨hlen6, vs, v1, v2, v3, v4⟩ := hys
  have hrl : rows.length ≠ 0 := by simpa using hne
  have hk : 0 + rows.length ≤ 2 ^ 46 := by omega
  have hfit : (0 + rows.length) * i.bytes ≤ 2 ^ 46 := by
    have : rows.length * i.bytes ≤ 2 ^ 20 * 2 ^ 20 := Nat.mul_le_mul hsm hib
    simp only [Nat.zero_add]; omega
  have happ := run_append_out (T := T) (w := w1) (t := t) (u := t) (e := e) (i := i) (z := zv) (ts := #[t, t]) (ty := o2.type) (sv := .slice (some ⟨w.heap.size, 0, none⟩) 0 0) (xv := v6) (base := some ⟨w.heap.size, 0, none⟩) (n := 0) (cap := 0) (k := rows.length) (vs := vs) (olds := [])
    rfl rfl hue hi hzi hu rfl hlen6 (v3 _ fun _ _ => rfl) (by simp only [Builtin.firstCells, Nat.zero_mul]; rfl) (by omega) hk hfit
  have hexec : (execOp a2.eval o2).run T w1 = .ok (.value (.slice (some ⟨w1.heap.size, 0, none⟩) (0 + rows.length) (grownCap w1 (0 + rows.length) 0 e))) (w1.drew.alloc (.cells (([] : List Value).toArray ++ vs.toArray ++ Builtin.zeroCells zv.cells (grownCap w1 (0 + rows.length) 0 e - (0 + rows.length))) e)) := by
    unfold execOp; rw [p21]
    have hm : (#[.tmp 5, .tmp 6] : Array Operand).map a2.eval = #[.slice (some ⟨w.heap.size, 0, none⟩) 0 0, v6] := by rw [← e5', ← e6]; simp
    simp [resolve, invoke, builtin, hm, happ, Result.andThen]
  refine wpOps_val (o := o2) rfl p22 hexec ?_
  rw [p23]
  obtain ⟨C', R4⟩ := R3.drew.newBlkD (ds := rows.flatten.map .p) (vs := vs) (([] : List Value).toArray ++ vs.toArray ++ Builtin.zeroCells zv.cells (grownCap w1 (0 + rows.length) 0 e - (0 + rows.length))) e
    (dp := .ms i.size st.h.length 0 rows.length) (vp := .slice (some ⟨w1.heap.size, 0, none⟩) (0 + rows.length) (grownCap w1 (0 + rows.length) 0 e))
    (fun j v hj => by
      have hj' := (List.getElem?_eq_some_iff.1 hj).1
      rw [Array.getElem?_append_left (by simpa using hj')]
      simpa using hj) (flat_rep v1 v4).toD v2
    (fun j x hx => by rw [getL_map, Option.map_eq_some_iff] at hx; obtain ⟨q, _, rfl⟩ := hx; exact ⟨rfl, rfl⟩) rfl
    (fun C' h1 h2 => by
      simp only [RepD]
      refine ⟨by rw [h1]; simp [putR], grownCap w1 (0 + rows.length) 0 e, ?_, ?_⟩
      · have : (putR (putR st (some 5) .dead) (some 6) (.p (.sl i.size rows))).h.length = st.h.length := rfl
        rw [this] at h2
        rw [h2]; simp only [Nat.zero_add, Nat.zero_mul]; rfl
      · have := grownCap_ge w1 (0 + rows.length) 0 e
        omega)
  have R5 := R4.put (dst := some 7)
  -- and it is the answer
  have hx3 : ∀ (a : Act) (w : World), (execOp a.eval o3).run T w = .ok (.value (a.eval (.tmp 7))) w := by
    intro a w; unfold execOp; rw [p31]; rfl
  refine wpOps_val (o := o3) rfl p32 (hx3 _ _) ?_
  rw [p33]
  have hs2 : a2.tmps.size = 8 := by rw [← ha2]; simp [Act.put, ha1s]
  have hrep7 := R5.opd (.tmp 7)
  have hg7 : getL (putR (AE.newBlk (putR (putR st (some 5) .dead) (some 6) (.p (.sl i.size rows))) (rows.flatten.map .p)) (some 7) (.ms i.size st.h.length 0 rows.length)).r 7 = some (.ms i.size st.h.length 0 rows.length) := by
    simp [putR, AE.newBlk, getL_setL, length_setL, hlen]
  simp only [opdD, hg7, Option.getD_some] at hrep7
  have R6 := (R5.push (d := .ms i.size st.h.length 0 rows.length) rfl hrep7).put (dst := some 2)
  refine hQ C' _ _ _ R6 ?_ rfl rfl
  simp [putR, AE.newBlk, getL_setL, length_setL, hlen]

def noCaught : FuncId → Option TypeId := fun _ => none
theorem clone_ok (hN : NoNum T) (hm : T.follows .mixedOrders = true) {f : FuncId} {fn : Func} (hf : T.funcs[f]? = some fn)
    {t e : TypeId} {i : TypeInfo} {z : P} (he : elemT T t = some e) (hi : T.info? e = some i) (hz : zeroT T e = some z) (hzl : z.cells.length = i.size) (hsz : sizeT T e = i.size) (hu : notIntT T t = true) (hib : i.bytes ≤ 2 ^ 20)
    {o0 o1 o2 o3 : Oper} (p0 : o0.op = .buildSlice t 0 #[] ∧ o0.guard = none ∧ o0.dst = some 5) (p1 : o1.op = .move (.tmp 0) ∧ o1.guard = none ∧ o1.dst = some 6)
    (p2 : o2.op = .call { callee := .builtin .append, args := #[.tmp 5, .tmp 6], argTypes := #[t, t] } ∧ o2.guard = none ∧ o2.dst = some 7) (p3 : o3.op = .assign (.tmp 7) ∧ o3.guard = none ∧ o3.dst = some 2)
    {A0 A1 : Code} (hb : fn.body = some (.seq A0 (.seq A1 (.seq (.region 3 #[o0, o1, o2, o3] false) .ret)))) (hrs : fn.results = #[.tmp 2])
    {h : List Blk} {rows : List (List P)} (hne : rows ≠ []) (hsm : rows.length ≤ 2 ^ 20)
    (hA : ecode T (AP (CallOK T) (dfrP noCaught)) [] A0 (startSt fn [.p (.sl i.size rows)] h) fun x st => x = .normal ∧ ecode T (AP (CallOK T) (dfrP noCaught)) [] A1 st fun x st =>
      x = .normal ∧ st.h = h ∧ getL st.r 0 = some (.p (.sl i.size rows)) ∧ st.r.length = 8 ∧ st.df = []) :
    CallOK T f [.p (.sl i.size rows)] h fun r h' => r = .ret (.ms i.size h.length 0 rows.length) ∧ h' = h ++ [.cells (rows.flatten.map .p)] := by
  intro C w vs hr hok hlo H
  have R0 := Rel.start fn H hr hlo
  have hC : CallSound T (CallOK T) := fun _ _ _ _ h => h
  have hD : DrawSound T (CallOK T) (dfrP noCaught) := draw_sound hN hm (fun _ _ _ _ h => h) callMono_ok
  refine calls_of_wp hf hb (wp_seq (wp_mono (ecode_sound hN hC hD A0 _ C _ _ w hA R0) fun e1 a1 w1 hq => ?_))
  obtain ⟨x1, st1, C1, ⟨hx1, hA1⟩, hq⟩ := hq
  subst hx1
  obtain ⟨rfl, R1⟩ := hq
  refine wp_seq (wp_mono (ecode_sound hN hC hD A1 _ C1 _ _ w1 hA1 R1) fun e2 a2 w2 hq => ?_)
  obtain ⟨x2, st2, C2, ⟨hx2, hh2, hg2, hl2, hd2⟩, hq⟩ := hq
  subst hx2
  obtain ⟨rfl, R2⟩ := hq
  refine wp_seq (clone_region he hi hz hzl hsz hu hib p0 p1 p2 p3 R2 hl2 hg2 hne hsm fun C3 st3 a3 w3 R3 hg3 hh3 hd3 => ?_)
  refine wp_ret ?_
  have hres : resD T st3 fn.results.toList = some [.ms i.size st2.h.length 0 rows.length] := by rw [hrs]; simp [resD, hg3]
  have hdd : a3.defers = [] := by have := R3.defs; rw [hd3, hd2] at this; exact List.length_eq_zero_iff.1 this.symm
  refine ⟨hdd, ?_⟩
  obtain ⟨v, hv, C4, r, h', hk, hp⟩ := ret_ok (h := h) (C := C) (k := fun r h' => r = .ret (.ms i.size h.length 0 rows.length) ∧ h' = h ++ [.cells (rows.flatten.map .p)]) R3 ⟨_, hres, .inl ⟨_, rfl, rfl, by rw [hh2], by rw [hh3, hh2]⟩⟩
  exact ⟨v, hv, C4, r, h', hk, hp⟩
end
end Go.AE
end

section
namespace Go.AE
open Go
set_option linter.unusedSimpArgs false
set_option linter.unusedVariables false
section
variable {T : Program}

/-- the first statements, and those behind them -/
def splitC : Nat → Code → Code × Code
  | n + 1, .seq a b => (.seq a (splitC n b).1, (splitC n b).2)
  | _, c => (.skip, c)

theorem ecode_split {R : Type} (A : Ans R) (es : List Tmp) : ∀ (n : Nat) (c : Code) (st : St) (k : Ex → St → R),
    ecode T A es c st k = ecode T A es (splitC n c).1 st fun x st => match x with | .normal => ecode T A es (splitC n c).2 st k | x => k x st
  | 0, c, st, k => by simp only [splitC, ecode]
  | n + 1, c, st, k => by
    unfold splitC
    split
    · rename_i n' a b e
      simp only [Nat.succ.injEq] at e; subst e
      simp only [ecode]
      congr 1
      funext x st
      cases x with
      | normal => exact ecode_split A es n b st k
      | exit id => rfl
      | ret => rfl
      | pan p => rfl
    · rename_i n' c' h1
      simp only [ecode]

/-- the first statements of a function, in a closed way -/
theorem efn_pre {caught : FuncId → Option TypeId} {sub : RunF} (hs : RunOK T sub) (fuel n : Nat) {es : List Tmp} {fn : Func} {body : Code} {args : List D} {h : List Blk} {k : Res → List Blk → Prop} {S : St} (hb : fn.body = some body)
    (e : ecode T (AO (α := Ex × St) caught sub fuel) (es ++ escList body) (splitC n body).1 (startSt fn args h) (fun x st => some (x, st)) = some (.normal, S))
    (hk : ecode T (AP (CallOK T) (dfrP caught)) (es ++ escList body) (splitC n body).2 S fun x st => (AP (CallOK T) (dfrP caught)).dfr st.df x st.h (finK T fn st k)) :
    efn T (AP (CallOK T) (dfrP caught)) es fn args h k := by
  unfold efn
  rw [hb]
  simp only []
  rw [ecode_split _ _ n]
  have key := (AO_sim (caught := caught) hs fuel (Ex.normal, S)).ecode (esc := es ++ escList body) (splitC n body).1 (st := startSt fn args h)
    (k := fun x st => some (x, st)) (k' := fun x st => match x with
      | .normal => ecode T (AP (CallOK T) (dfrP caught)) (es ++ escList body) (splitC n body).2 st fun x st => (AP (CallOK T) (dfrP caught)).dfr st.df x st.h (finK T fn st k)
      | x => (AP (CallOK T) (dfrP caught)).dfr st.df x st.h (finK T fn st k))
    (fun x st e => by
      simp only [Option.some.injEq, Prod.mk.injEq] at e
      obtain ⟨rfl, rfl⟩ := e
      exact hk) e
  exact key

theorem eops_append {R : Type} (A : Ans R) (es ap : List Tmp) (ops : List Oper) : ∀ (l1 l2 : List Oper) (st : St) (k : Ex → St → R),
    eops T A es ap ops (l1 ++ l2) st k = eops T A es ap ops l1 st fun x st => match x with | .normal => eops T A es ap ops l2 st k | x => k x st
  | [], l2, st, k => rfl
  | o :: l1, l2, st, k => by
    simp only [List.cons_append, eops]
    congr 1
    · congr 1
      funext d st
      exact eops_append A es ap ops l1 l2 _ k
    · exact eops_append A es ap ops l1 l2 _ k

/-- the first operations of a row, in a closed way -/
theorem eops_pre {caught : FuncId → Option TypeId} {sub : RunF} (hs : RunOK T sub) (fuel m : Nat) {es ap : List Tmp} {ops l : List Oper} {st S : St} {k : Ex → St → Prop}
    (e : eops T (AO (α := Ex × St) caught sub fuel) es ap ops (l.take m) st (fun x st => some (x, st)) = some (.normal, S))
    (hk : eops T (AP (CallOK T) (dfrP caught)) es ap ops (l.drop m) S k) : eops T (AP (CallOK T) (dfrP caught)) es ap ops l st k := by
  rw [← List.take_append_drop m l, eops_append]
  exact (AO_sim (caught := caught) hs fuel (Ex.normal, S)).eops (esc := es) (ap := ap) (ops := ops) (l.take m) (st := st) (k := fun x st => some (x, st))
    (k' := fun x st => match x with | .normal => eops T (AP (CallOK T) (dfrP caught)) es ap ops (l.drop m) st k | x => k x st)
    (fun x st e => by
      simp only [Option.some.injEq, Prod.mk.injEq] at e
      obtain ⟨rfl, rfl⟩ := e
      exact hk) e
theorem ecode_seq {R : Type} {A : Ans R} {es : List Tmp} {a b : Code} {st : St} {k : Ex → St → R} : ecode T A es (.seq a b) st k = ecode T A es a st fun x st => match x with | .normal => ecode T A es b st k | x => k x st := by
  simp only [ecode]
  congr 1
  funext x st
  cases x <;> rfl
theorem ecode_region {R : Type} {A : Ans R} {es : List Tmp} {id : Nat} {ops : Array Oper} {st : St} {k : Ex → St → R} : ecode T A es (.region id ops false) st k = eops T A es (apSrc ops.toList) ops.toList ops.toList st k := by
  simp [ecode]

/-- a comparison whose answer is known otherwise -/
theorem eops_bin {CALL : FuncId → List D → List Blk → (Res → List Blk → Prop) → Prop} {DFR : List (FuncId × List D) → Ex → List Blk → (Ex → List Blk → Prop) → Prop} {es ap : List Tmp} {ops rest : List Oper} {o : Oper} {st : St} {k : Ex → St → Prop} {b : BinOp} {t u : TypeId} {x y : Operand} {d : D}
    (hop : o.op = .binOp b t x y u) (hg : o.guard = none) (h1 : structOp T st.r o = none) (h2 : scalarOp T st.r o = some d) (hk : eops T (AP CALL DFR) es ap ops rest (putR st o.dst d) k) :
    eops T (AP CALL DFR) es ap ops (o :: rest) st k := by
  simp only [eops, wantedD, hg]
  unfold eop
  rw [hop]
  simp only [h1, h2, CD]
  exact hk
end
end Go.AE
end

section
namespace Go.AE
open Go
set_option linter.unusedSimpArgs false
set_option linter.unusedVariables false
section
variable {T : Program}

def ctx0 : Ctx := { β := fun _ => 0, al := fun _ => False, nh := 0, Φ := fun _ _ => none }
theorem hrel0 (w : World) : HRel ctx0 w [] := by
  have hc : ∀ k, cellsOf (stH []) k = none := by intro k; cases k <;> simp [cellsOf, stH, getL]
  have hl : ∀ k, liveK (stH []) k = false := by intro k; cases k <;> simp [liveK, stH, getL]
  have hx : ∀ p, xb ctx0 (stH []) #[] w [] p = none := by
    intro p
    cases p with
    | reg i => simp [xb, atPos, stH, getL, both]
    | ex j => simp [xb, atPos, getL]
    | cell k j => simp [xb, atPos, hc, both]
    | blk k => simp [xb, hl]
  refine { len := rfl, regs := (by intro i d v h; simp [stH, getL] at h), exs := (by intro i q h; simp [getL] at h), cells := (by intro k ds j d h; rw [hc] at h; cases h),
           al := (by intro s; simp [ctx0, boxed, stH, getL]), seals := (by intro s ps h; simp [stH, getL] at h), frzs := (by intro s ps h; simp [stH, getL] at h), nh := rfl, hb := ⟨Nat.le_refl _, fun _ _ => rfl⟩, tails := ?_,
           inj := (by intro p q n h; have h : xb ctx0 (stH []) #[] w [] p = some n := h; rw [hx] at h; cases h), bound := (by intro p n h; have h : xb ctx0 (stH []) #[] w [] p = some n := h; rw [hx] at h; cases h),
           empty := (by intro k h; rw [hl] at h; cases h), sub := (by intro b o v h; cases h),
           frm := ⟨rfl, rfl, rfl, Nat.le_refl _, fun _ _ _ => rfl, fun _ _ _ _ => rfl, Le.refl _⟩, defs := rfl, defr := (by intro i q d h; simp [stH, getL] at h), maps := (by intro id es c h; simp [stH, getL] at h) }
  intro p d v h
  cases p with
  | reg i => simp [atPos, stH, getL, both] at h
  | ex j => simp [atPos, getL] at h
  | cell k j => simp [atPos, hc, both] at h
  | blk k => simp [atPos] at h

/-- a law: called with data that hold no memory of the call's own, it answers true, and what was there is as it was -/
theorem law_below {f : FuncId} {ds : List D} {vs : List Value} {C : Ctx} {w : World} {h : List Blk} (hc : CallOK T f ds h fun r _ => r = .ret (.p (.sc (.bool true)))) (H : HRel C w h) (hX : ∀ n, ¬ (baseOf C w h).X n) (hr : RepDs C ds vs) (hok : okArgs ds = true)
    (hlo : ∀ i d, getL ds i = some d → loose d = true) : Calls T f vs.toArray w fun e w' => e = .returned (.bool true) ∧ Go.RowKit.Below w.heap.size w w' := by
  refine (hc C w vs hr hok hlo H).mono fun e w' => ?_
  rintro ⟨C', r, h', rfl, v, rfl, _, R⟩
  have hv := R.exs 0 (.p (.sc (.bool true)), v) rfl
  simp only [RepD, RepP] at hv
  obtain ⟨rfl, _⟩ := hv
  exact ⟨rfl, ⟨R.frm.os, R.frm.tape, R.frm.output, R.frm.size, fun k hk => R.frm.block k hk (hX k)⟩⟩
theorem noX0 (w : World) : ∀ n, ¬ (baseOf ctx0 w []).X n := by
  rintro n ⟨p, hp⟩
  cases p with
  | reg i => simp [xb, atPos, stH, getL, both] at hp
  | ex j => simp [xb, atPos, getL] at hp
  | cell k j => cases k <;> simp [xb, atPos, cellsOf, stH, getL, both] at hp
  | blk k => cases k <;> simp [xb, liveK, stH, getL] at hp
end
end Go.AE
end

