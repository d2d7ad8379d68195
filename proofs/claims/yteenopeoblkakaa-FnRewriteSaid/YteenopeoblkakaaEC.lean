/-
  The engine: how a function's code, run by the model, is followed step by step over told memory. It holds of every program; it has no conditions.
-/
import Derived.Test.YteenopeoblkakaaEB
import Derived.ProofKit
import Derived.SizedLaws
set_option linter.unusedVariables false
set_option linter.unusedSimpArgs false
set_option linter.unnecessarySimpa false
set_option linter.unusedVariables false
namespace Go.Eng
open Go.RowKit (Below)
/-! Regions that draw their order: every order comes to one state. -/
def touch (d : Dl) : List Nat := d.del ++ (d.set.map (·.1) ++ d.new)
def appRows (f : Rows) (d : Dl) : Rows := setRows (delRows f d.del) d.set
section
theorem blt_iff {a b : Nat} : Nat.blt a b = true ↔ a < b := by rw [Nat.blt_eq]
theorem memN_false {r : Nat} : ∀ {l : List Nat}, memN r l = false ↔ r ∉ l := by
  intro l
  rw [← memN_iff (r := r) (l := l)]
  simp
theorem delRows_at {r : Nat} : ∀ {l : List Nat} {f : Rows}, delRows f l r = if r ∈ l then none else f r
  | [], f => by simp [delRows]
  | s :: l, f => by
    rw [delRows, delRows_at]
    by_cases h : r ∈ l
    · simp [h]
    · by_cases hs : r = s
      · subst hs; simp [upd_self]
      · rw [upd_ne hs]; simp [h, hs]
theorem setRows_same {r : Nat} : ∀ {l : List (Nat × List C)} {f g : Rows}, (r ∈ l.map (·.1) ∨ f r = g r) → setRows f l r = setRows g l r
  | [], f, g, h => by simpa [setRows] using h
  | (s, cs) :: l, f, g, h => by
    simp only [setRows]
    refine setRows_same ?_
    by_cases hs : r = s
    · subst hs; right; rw [upd_self, upd_self]
    · rw [upd_ne hs, upd_ne hs]
      simpa [hs] using h
theorem setRows_not {r : Nat} : ∀ {l : List (Nat × List C)} {f : Rows}, r ∉ l.map (·.1) → setRows f l r = f r
  | [], f, _ => rfl
  | (s, cs) :: l, f, h => by
    simp only [List.map_cons, List.mem_cons, not_or] at h
    simp only [setRows]
    rw [setRows_not h.2, upd_ne h.1]
theorem appRows_not {d : Dl} {f : Rows} {r : Nat} (h : r ∉ touch d) : appRows f d r = f r := by
  unfold touch at h
  simp only [List.mem_append, not_or] at h
  unfold appRows
  rw [setRows_not h.2.1, delRows_at, if_neg h.1]
theorem appRows_same {d : Dl} {f g : Rows} {r : Nat} (h : f r = g r) : appRows f d r = appRows g d r := by
  unfold appRows
  refine setRows_same (.inr ?_)
  rw [delRows_at, delRows_at, h]
theorem newUsed_at {r : Nat} : ∀ {l : List Nat} {u : Nat → Bool}, newUsed u l r = (memN r l || u r)
  | [], u => by simp [newUsed, memN]
  | s :: l, u => by
    rw [newUsed, newUsed_at]
    by_cases hs : r = s
    · subst hs
      have : memN r (r :: l) = true := memN_iff.2 (by simp)
      rw [this, upd_self]
      simp
    · rw [upd_ne hs]
      have : memN r (s :: l) = memN r l := by
        by_cases h : r ∈ l
        · rw [memN_iff.2 h, memN_iff.2 (by simp [h])]
        · rw [memN_false.2 h, memN_false.2 (by simp [h, hs])]
      rw [this]
end
/-- One operation as a difference at its slot. -/
structure En where
  dst : Option Tmp
  d : Dl
def En.key (e : En) : Option Tmp := match e.d.put with
  | some _ => e.dst
  | none => none
section
variable {st st' : St} {e e' : En}
theorem app_env {k : Nat} : (st.app e.dst e.d).env k = if e.key = some k then e.d.put else st.env k := by
  unfold En.key St.app St.putO St.put
  cases hd : e.d.put with
  | none => simp
  | some c =>
    cases hs : e.dst with
    | none => simp
    | some j =>
      by_cases h : j = k
      · subst h; simp [upd_self]
      · have : ¬ some j = some k := by simp [h]
        rw [if_neg this]
        exact upd_ne (fun x => h x.symm)
theorem app_rows : (st.app e.dst e.d).rows = appRows st.rows e.d := rfl
theorem app_used : (st.app e.dst e.d).used = newUsed st.used e.d.new := rfl
theorem app_N : (st.app e.dst e.d).N = st.N ∧ (st.app e.dst e.d).args = st.args := by
  unfold St.app St.putO St.put
  cases e.d.put with
  | none => exact ⟨rfl, rfl⟩
  | some c => cases e.dst <;> exact ⟨rfl, rfl⟩
theorem St.ext' {a b : St} (h1 : a.N = b.N) (h2 : a.args = b.args) (h3 : ∀ k, a.env k = b.env k) (h4 : ∀ k, a.rows k = b.rows k) (h5 : ∀ k, a.used k = b.used k) : a = b := by
  cases a; cases b
  simp only at h1 h2 h3 h4 h5
  subst h1; subst h2
  have e3 := funext h3; have e4 := funext h4; have e5 := funext h5
  subst e3; subst e4; subst e5
  rfl
/-- Two that may change places. -/
def Apart (e e' : En) : Prop := (∀ k, e.key = some k → e'.key ≠ some k) ∧ ∀ r, r ∈ touch e.d → r ∉ touch e'.d
theorem Apart.symm (h : Apart e e') : Apart e' e := ⟨fun k h1 h2 => h.1 k h2 h1, fun r h1 h2 => h.2 r h2 h1⟩
theorem app_comm (h : Apart e e') : (st.app e.dst e.d).app e'.dst e'.d = (st.app e'.dst e'.d).app e.dst e.d := by
  refine St.ext' ?_ ?_ (fun k => ?_) (fun r => ?_) (fun r => ?_)
  · rw [app_N.1, app_N.1, app_N.1, app_N.1]
  · rw [app_N.2, app_N.2, app_N.2, app_N.2]
  · simp only [app_env]
    by_cases h1 : e.key = some k
    · rw [if_pos h1, if_neg (h.1 k h1), if_pos h1]
    · rw [if_neg h1, if_neg h1]
  · rw [app_rows, app_rows, app_rows, app_rows]
    by_cases h1 : r ∈ touch e.d
    · rw [appRows_not (h.2 r h1)]
      exact appRows_same (appRows_not (h.2 r h1)).symm
    · rw [appRows_not (d := e.d) h1]
      exact appRows_same (appRows_not h1)
  · rw [app_used, app_used, app_used, app_used, newUsed_at, newUsed_at, newUsed_at, newUsed_at]
    simp only [← Bool.or_assoc]
    rw [Bool.or_comm (memN r e'.d.new)]
/-- The state when those of L are done. -/
def stF (L : Nat → Bool) : Nat → List En → St → St
  | _, [], s => s
  | n, e :: es, s => stF L (n + 1) es (match L n with
    | true => s.app e.dst e.d
    | false => s)
theorem stF_congr {L L' : Nat → Bool} : ∀ (es : List En) (n : Nat) (s : St), (∀ j, n ≤ j → L j = L' j) → stF L n es s = stF L' n es s
  | [], _, _, _ => rfl
  | e :: es, n, s, h => by
    simp only [stF]
    rw [h n (Nat.le_refl _), stF_congr es (n + 1) _ (fun j hj => h j (by omega))]
theorem stF_push {L : Nat → Bool} : ∀ (es : List En) (n : Nat) (s : St), (∀ j e', es[j]? = some e' → L (n + j) = true → Apart e e') → stF L n es (s.app e.dst e.d) = (stF L n es s).app e.dst e.d
  | [], _, _, _ => rfl
  | e' :: es, n, s, h => by
    simp only [stF]
    have ih := fun s => stF_push es (n + 1) s (fun j x hj hl => h (j + 1) x (by simpa using hj) (by rwa [show n + (j + 1) = n + 1 + j by omega]))
    cases hl : L n with
    | false => exact ih s
    | true =>
      have := h 0 e' rfl (by simpa using hl)
      simp only
      rw [app_comm this, ih]
theorem stF_add {L : Nat → Bool} : ∀ (es : List En) (n : Nat) (s : St) (i : Nat), es[i]? = some e → L (n + i) = false → (∀ j e', es[j]? = some e' → i < j → L (n + j) = true → Apart e e') → stF (upd L (n + i) true) n es s = (stF L n es s).app e.dst e.d
  | [], _, _, _, h, _, _ => by simp at h
  | e' :: es, n, s, 0, h, hl, ha => by
    simp only [List.getElem?_cons_zero, Option.some.injEq] at h
    subst h
    simp only [stF, Nat.add_zero] at hl ⊢
    rw [upd_self, hl]
    simp only
    rw [stF_congr (L := upd L n true) (L' := L) es (n + 1) _ (fun j hj => upd_ne (by omega))]
    exact stF_push es (n + 1) s (fun j x hj hx => ha (j + 1) x (by simpa using hj) (by omega) (by rwa [show n + (j + 1) = n + 1 + j by omega]))
  | e' :: es, n, s, i + 1, h, hl, ha => by
    simp only [stF]
    have hne : n ≠ n + (i + 1) := by omega
    rw [upd_ne hne, show n + (i + 1) = n + 1 + i by omega]
    exact stF_add es (n + 1) _ i (by simpa using h) (by rwa [show n + 1 + i = n + (i + 1) by omega]) (fun j x hj hij hx => ha (j + 1) x (by simpa using hj) (by omega) (by rwa [show n + (j + 1) = n + 1 + j by omega]))
/-- Agreement at a slot, at a row. -/
theorem stF_env {L L' : Nat → Bool} {k : Nat} : ∀ (es : List En) (n : Nat) (s s' : St), s.env k = s'.env k → (∀ j e, es[j]? = some e → L (n + j) ≠ L' (n + j) → e.key ≠ some k) → (stF L n es s).env k = (stF L' n es s').env k
  | [], _, _, _, h, _ => h
  | e :: es, n, s, s', h, ha => by
    simp only [stF]
    refine stF_env es (n + 1) _ _ ?_ (fun j x hj hl => ha (j + 1) x (by simpa using hj) (by rwa [show n + (j + 1) = n + 1 + j by omega]))
    have h0 := ha 0 e rfl
    rw [Nat.add_zero] at h0
    cases hl : L n <;> cases hl' : L' n <;> simp only
    · exact h
    · have hne := h0 (by rw [hl, hl']; simp)
      rw [app_env, if_neg hne]; exact h
    · have hne := h0 (by rw [hl, hl']; simp)
      rw [app_env, if_neg hne]; exact h
    · rw [app_env, app_env, h]
theorem stF_rows {L L' : Nat → Bool} {k : Nat} : ∀ (es : List En) (n : Nat) (s s' : St), s.rows k = s'.rows k → (∀ j e, es[j]? = some e → L (n + j) ≠ L' (n + j) → k ∉ touch e.d) → (stF L n es s).rows k = (stF L' n es s').rows k
  | [], _, _, _, h, _ => h
  | e :: es, n, s, s', h, ha => by
    simp only [stF]
    refine stF_rows es (n + 1) _ _ ?_ (fun j x hj hl => ha (j + 1) x (by simpa using hj) (by rwa [show n + (j + 1) = n + 1 + j by omega]))
    have h0 := ha 0 e rfl
    rw [Nat.add_zero] at h0
    cases hl : L n <;> cases hl' : L' n <;> simp only
    · exact h
    · have hne := h0 (by rw [hl, hl']; simp)
      rw [app_rows, appRows_not hne]; exact h
    · have hne := h0 (by rw [hl, hl']; simp)
      rw [app_rows, appRows_not hne]; exact h
    · rw [app_rows, app_rows]; exact appRows_same h
theorem stF_used {L : Nat → Bool} {r : Nat} : ∀ (es : List En) (n : Nat) (s : St), s.used r = false → (∀ j e, es[j]? = some e → L (n + j) = true → r ∉ e.d.new) → (stF L n es s).used r = false
  | [], _, _, h, _ => h
  | e :: es, n, s, h, ha => by
    simp only [stF]
    refine stF_used es (n + 1) _ ?_ (fun j x hj hl => ha (j + 1) x (by simpa using hj) (by rwa [show n + (j + 1) = n + 1 + j by omega]))
    cases hl : L n with
    | false => exact h
    | true =>
      simp only
      rw [app_used, newUsed_at, h, memN_false.2 (ha 0 e rfl (by simpa using hl))]
      rfl
theorem stF_N {L : Nat → Bool} : ∀ (es : List En) (n : Nat) (s : St), (stF L n es s).N = s.N
  | [], _, _ => rfl
  | e :: es, n, s => by
    simp only [stF]
    rw [stF_N es (n + 1)]
    cases L n with
    | false => rfl
    | true => exact app_N.1
end
/-- What is known of the operation at place i. -/
structure Fact (P : Program) (ops : Array Oper) (es : List En) (s0 : St) (anc : Nat → List Nat) (i : Nat) (o : Oper) (e : En) (lk : St) : Prop where
  sub : Sub lk (stF (fun j => Nat.blt j i) 0 es s0)
  env : ∀ j e', es[j]? = some e' → j ≠ i → j ∉ anc i → i ∉ anc j → ∀ k, e'.key = some k → lk.env k = none
  rows : ∀ j e', es[j]? = some e' → j ≠ i → j ∉ anc i → i ∉ anc j → ∀ r, r ∈ touch e'.d → lk.rows r = none
  apart : ∀ j e', es[j]? = some e' → j ≠ i → j ∉ anc i → i ∉ anc j → Apart e e'
  fresh : ∀ r, r ∈ e.d.new → s0.used r = false ∧ ∀ j e', es[j]? = some e' → j ≠ i → r ∉ e'.d.new
  dst : e.dst = o.dst
  fits : s0.fits o.dst
  step : (o.guard = none ∧ (∀ st, Sub lk st → st.fits o.dst → (∀ id ∈ e.d.new, st.used id = false) → Step P o st (st.app o.dst e.d))) ∨
    ∃ j b oj dj u, o.guard = some (j, b) ∧ ops[j]? = some oj ∧ oj.dst = some dj ∧ lk.env dj = some (.v (.sc u)) ∧
      ((u = .bool b ∧ (∀ st, Sub lk st → st.fits o.dst → (∀ id ∈ e.d.new, st.used id = false) → Step P o st (st.app o.dst e.d))) ∨ (notB b u = true ∧ e.d = ⟨some (.v (.sc undef)), [], [], []⟩))
section
variable {P : Program} {X : Ctx} {o : Oper} {st st' s0 : St} {a : Act} {w w' : World} {ops : Array Oper} {Q : Exit → St → Prop}
theorem R.drew (h : R X st a w) : R X st a w.drew := by
  obtain ⟨ρ, Fp, m1, m2⟩ := h.mem
  refine ⟨⟨ρ, Fp, m1.world Same_drew (fun _ _ _ => Same_drew) (Nat.le_refl _), ?_⟩, h.nodef, h.size, h.below.trans (Below.refl _ _).drew, h.keep.trans Same_drew, h.hsub, h.hk, h.hB⟩
  refine ⟨fun k c hk => ?_, CRL_mono FS.sub.refl Same_drew _ (fun _ _ _ => id) m2.2.2 m2.2.1, m2.2.2⟩
  obtain ⟨y, e1, e2, e3⟩ := m2.1 k c hk
  exact ⟨y, e1, CR_mono FS.sub.refl Same_drew c (fun _ _ _ => id) e3 e2, e3⟩
/-- Is it listed? -/
abbrev Ls (listed : Array Bool) : Nat → Bool := fun j => listed.getD j true
theorem Ls_set {listed : Array Bool} {i : Nat} (hi : i < listed.size) : Ls (listed.setIfInBounds i true) = upd (Ls listed) i true := by
  funext j
  unfold Ls
  by_cases h : j = i
  · subst h
    rw [upd_self]
    simp [Array.getD_eq_getD_getElem?, hi]
  · rw [upd_ne h]
    simp [Array.getD_eq_getD_getElem?, Array.getElem?_setIfInBounds_ne (Ne.symm h)]
def cnt (L : Nat → Bool) : Nat → Nat
  | 0 => 0
  | n + 1 => cnt L n + (match L n with | true => 0 | false => 1)
theorem cnt_upd {L : Nat → Bool} {i : Nat} (hi : L i = false) : ∀ n, cnt (upd L i true) n + (if i < n then 1 else 0) = cnt L n
  | 0 => by simp [cnt]
  | n + 1 => by
    have ih := cnt_upd hi n
    simp only [cnt]
    by_cases h : n = i
    · subst h
      rw [upd_self, hi]
      rw [if_neg (by omega)] at ih
      rw [if_pos (by omega)]
      simp only
      omega
    · rw [upd_ne h]
      by_cases h2 : i < n
      · rw [if_pos h2] at ih; rw [if_pos (by omega)]; omega
      · rw [if_neg h2] at ih; rw [if_neg (by omega)]; omega
theorem cnt_zero {L : Nat → Bool} : ∀ {n : Nat}, cnt L n = 0 → ∀ j, j < n → L j = true
  | 0, _, j, hj => by omega
  | n + 1, h, j, hj => by
    simp only [cnt] at h
    have h1 : cnt L n = 0 := by omega
    by_cases e : j = n
    · subst e
      cases hl : L j with
      | true => rfl
      | false => rw [hl] at h; simp at h
    · exact cnt_zero h1 j (by omega)
theorem cnt_pos {L : Nat → Bool} : ∀ {n : Nat}, cnt L n ≠ 0 → ∃ j, j < n ∧ L j = false ∧ ∀ k, k < j → L k = true
  | 0, h => by simp [cnt] at h
  | n + 1, h => by
    by_cases h1 : cnt L n = 0
    · simp only [cnt, h1] at h
      refine ⟨n, by omega, ?_, fun k hk => cnt_zero h1 k hk⟩
      cases hl : L n with
      | false => rfl
      | true => rw [hl] at h; simp at h
    · obtain ⟨j, a, b, c⟩ := cnt_pos h1
      exact ⟨j, by omega, b, c⟩
theorem wpAny_of {es : List En} {lks : Nat → St} {anc : Nat → List Nat} (hes : es.length = ops.size)
    (hF : ∀ i o e, ops[i]? = some o → es[i]? = some e → Fact P ops es s0 anc i o e (lks i))
    (hedge : ∀ i o, ops[i]? = some o → ∀ ed, ed ∈ o.after.toList → Region.binds .any ed = true → ed.on < i)
    (hanc : ∀ i o, ops[i]? = some o → ∀ j, j ∈ anc i → ∃ ed, ed ∈ o.after.toList ∧ Region.binds .any ed = true ∧ (j = ed.on ∨ j ∈ anc ed.on))
    (hout : ∀ i, ops.size ≤ i → anc i = [])
    {st' : St} (hst : stF (fun _ => true) 0 es s0 = st') {K : Exit → Act → World → Prop} (hK : ∀ a' w', R X st' a' w' → K .normal a' w') :
    ∀ (fuel : Nat) (listed : Array Bool) (a : Act) (w : World), listed.size = ops.size → cnt (Ls listed) ops.size = fuel →
      (∀ i o, ops[i]? = some o → Ls listed i = true → ∀ ed, ed ∈ o.after.toList → Region.binds .any ed = true → Ls listed ed.on = true) →
      R X (stF (Ls listed) 0 es s0) a w → wpAny P .any ops K fuel listed a w := by
  have closed : ∀ (listed : Array Bool), listed.size = ops.size → (∀ i o, ops[i]? = some o → Ls listed i = true → ∀ ed, ed ∈ o.after.toList → Region.binds .any ed = true → Ls listed ed.on = true) → ∀ i, Ls listed i = true → ∀ j, j ∈ anc i → Ls listed j = true := by
    intro listed hsz hc i
    induction i using Nat.strongRecOn with
    | _ i ih =>
      intro hi j hj
      by_cases hlt : i < ops.size
      · obtain ⟨o, ho⟩ : ∃ o, ops[i]? = some o := ⟨ops[i], by simp [hlt]⟩
        obtain ⟨ed, e1, e2, e3⟩ := hanc i o ho j hj
        have hed := hc i o ho hi ed e1 e2
        rcases e3 with rfl | e3
        · exact hed
        · exact ih _ (hedge i o ho ed e1 e2) hed j e3
      · rw [hout i (by omega)] at hj; simp at hj
  have ready_iff : ∀ (listed : Array Bool) (i : Nat), i ∈ Region.ready .any ops listed ↔ i < ops.size ∧ Ls listed i = false ∧ ∃ o, ops[i]? = some o ∧ ∀ ed, ed ∈ o.after.toList → Region.binds .any ed = true → listed.getD ed.on false = true := by
    intro listed i
    unfold Region.ready
    simp only [List.mem_filter, List.mem_range, Bool.and_eq_true, Bool.not_eq_true']
    constructor
    · rintro ⟨h1, h2, h3⟩
      obtain ⟨o, ho⟩ : ∃ o, ops[i]? = some o := ⟨ops[i], by simp [h1]⟩
      refine ⟨h1, h2, o, ho, fun ed hed hb => ?_⟩
      rw [ho] at h3
      simp only [Option.map_some, Option.getD_some, Array.all_eq_true'] at h3
      have := h3 ed (by simpa using hed)
      rw [hb] at this
      simpa using this
    · rintro ⟨h1, h2, o, ho, h3⟩
      refine ⟨h1, h2, ?_⟩
      rw [ho]
      simp only [Option.map_some, Option.getD_some, Array.all_eq_true']
      intro ed hed
      cases hb : Region.binds .any ed with
      | false => rfl
      | true => simpa using h3 ed (by simpa using hed) hb
  intro fuel
  induction fuel with
  | zero =>
    intro listed a w hsz hcnt hc hr
    have hall := cnt_zero hcnt
    refine ⟨?_, hK a w ?_⟩
    · rw [List.eq_nil_iff_forall_not_mem]
      intro i hi
      obtain ⟨h1, h2, _⟩ := (ready_iff listed i).1 hi
      rw [hall i h1] at h2
      cases h2
    · rw [← hst]
      have : stF (Ls listed) 0 es s0 = stF (fun _ => true) 0 es s0 := by
        refine stF_congr es 0 s0 (fun j _ => ?_)
        by_cases hj : j < ops.size
        · exact hall j hj
        · unfold Ls
          rw [Array.getD_eq_getD_getElem?, Array.getElem?_eq_none (by omega)]
          rfl
      rwa [← this]
  | succ fuel ih =>
    intro listed a w hsz hcnt hc hr
    refine ⟨fun hnil => ?_, fun i hi => ?_⟩
    · exfalso
      obtain ⟨j, h1, h2, h3⟩ := cnt_pos (L := Ls listed) (n := ops.size) (by omega)
      have : j ∈ Region.ready .any ops listed := by
        refine (ready_iff listed j).2 ⟨h1, h2, ops[j], by simp [h1], fun ed hed hb => ?_⟩
        have hlt := hedge j ops[j] (by simp [h1]) ed hed hb
        have := h3 ed.on hlt
        unfold Ls at this
        rw [Array.getD_eq_getD_getElem?, Array.getElem?_eq_getElem (by omega)] at this ⊢
        simpa using this
      rw [hnil] at this
      simp at this
    · obtain ⟨h1, h2, o, ho, h3⟩ := (ready_iff listed i).1 hi
      obtain ⟨e, he⟩ : ∃ e, es[i]? = some e := ⟨es[i]'(by omega), by simp⟩
      have F := hF i o e ho he
      have hcl := closed listed hsz hc
      have hi' : ∀ j, j ∈ anc i → Ls listed j = true := by
        intro j hj
        obtain ⟨ed, e1, e2, e3⟩ := hanc i o ho j hj
        have hed : Ls listed ed.on = true := by
          have := h3 ed e1 e2
          have hlt := hedge i o ho ed e1 e2
          unfold Ls
          rw [Array.getD_eq_getD_getElem?, Array.getElem?_eq_getElem (by omega)] at this ⊢
          simpa using this
        rcases e3 with rfl | e3
        · exact hed
        · exact hcl _ hed j e3
      have hno : ∀ j, Ls listed j = true → i ∉ anc j := fun j hj hm => by
        have := hcl j hj i hm
        rw [h2] at this
        cases this
      have ancsmall : ∀ n i, i < n → ∀ j, j ∈ anc i → j < i := by
        intro n
        induction n with
        | zero => intro i hi; omega
        | succ n ihn =>
          intro i hin j hj
          by_cases hlt : i < ops.size
          · obtain ⟨o, ho⟩ : ∃ o, ops[i]? = some o := ⟨ops[i], by simp [hlt]⟩
            obtain ⟨ed, e1, e2, e3⟩ := hanc i o ho j hj
            have hed := hedge i o ho ed e1 e2
            rcases e3 with rfl | e3
            · exact hed
            · have := ihn ed.on (by omega) j e3; omega
          · rw [hout i (by omega)] at hj; simp at hj
      -- those that are done but not canonically so, and the other way round, lie apart
      have diff : ∀ j, Ls listed j ≠ Nat.blt j i → j < ops.size → j ≠ i ∧ j ∉ anc i ∧ i ∉ anc j ∨ (j = i) := by
        intro j hj hjs
        by_cases hji : j = i
        · exact .inr hji
        · refine .inl ⟨hji, ?_, ?_⟩
          · intro hm
            have t1 := hi' j hm
            have t2 := ancsmall (i + 1) i (by omega) j hm
            have t3 : Nat.blt j i = true := blt_iff.2 t2
            rw [t1, t3] at hj
            exact hj rfl
          · intro hm
            have t1 := ancsmall (j + 1) j (by omega) i hm
            have t3 : Nat.blt j i = false := by
              cases hb : Nat.blt j i with
              | false => rfl
              | true => have := blt_iff.1 hb; omega
            have t2 : Ls listed j = false := by
              cases hb : Ls listed j with
              | false => rfl
              | true => exact (hno j hb hm).elim
            rw [t2, t3] at hj
            exact hj rfl
      have hbi : Ls listed i = Nat.blt i i := by
        rw [h2]
        cases hb : Nat.blt i i with
        | false => rfl
        | true => have := blt_iff.1 hb; omega
      have hsub : Sub (lks i) (stF (Ls listed) 0 es s0) := by
        refine ⟨fun k c hk => ?_, fun r row hk => ?_⟩
        · rw [← F.sub.env k c hk]
          refine stF_env es 0 s0 s0 rfl (fun j e' hj hne hkey => ?_)
          rw [Nat.zero_add] at hne
          have hjs : j < ops.size := by have := (List.getElem?_eq_some_iff.1 hj).1; omega
          rcases diff j hne hjs with ⟨d1, d2, d3⟩ | rfl
          · have := F.env j e' hj d1 d2 d3 k hkey
            rw [hk] at this
            cases this
          · exact hne hbi
        · rw [← F.sub.rows r row hk]
          refine stF_rows es 0 s0 s0 rfl (fun j e' hj hne hkey => ?_)
          rw [Nat.zero_add] at hne
          have hjs : j < ops.size := by have := (List.getElem?_eq_some_iff.1 hj).1; omega
          rcases diff j hne hjs with ⟨d1, d2, d3⟩ | rfl
          · have := F.rows j e' hj d1 d2 d3 r hkey
            rw [hk] at this
            cases this
          · exact hne hbi
      have hfits : (stF (Ls listed) 0 es s0).fits o.dst := by
        intro d hd
        rw [stF_N]
        exact F.fits d hd
      have hfresh : ∀ id ∈ e.d.new, (stF (Ls listed) 0 es s0).used id = false := by
        intro id hid
        obtain ⟨f1, f2⟩ := F.fresh id hid
        refine stF_used es 0 s0 f1 (fun j e' hj hl => f2 j e' hj ?_)
        rintro rfl
        rw [Nat.zero_add, h2] at hl
        cases hl
      have hnext : (stF (Ls listed) 0 es s0).app o.dst e.d = stF (Ls (listed.setIfInBounds i true)) 0 es s0 := by
        rw [Ls_set (by omega), ← F.dst]
        have := stF_add (L := Ls listed) (e := e) es 0 s0 i he (by simpa using h2) (fun j e' hj hij hl => by
          rw [Nat.zero_add] at hl
          refine F.apart j e' hj (by omega) (fun hm => ?_) (hno j hl)
          have := ancsmall (i + 1) i (by omega) j hm
          omega)
        rw [Nat.zero_add] at this
        exact this.symm
      have hrec : ∀ a' w', R X ((stF (Ls listed) 0 es s0).app o.dst e.d) a' w' → wpAny P .any ops K fuel (listed.setIfInBounds i true) a' w' := by
        intro a' w' hr'
        rw [hnext] at hr'
        refine ih _ a' w' (by simpa using hsz) ?_ ?_ hr'
        · have := cnt_upd (L := Ls listed) h2 ops.size
          rw [if_pos h1, ← Ls_set (by omega)] at this
          omega
        · intro j oj hoj hlj ed hed hb
          rw [Ls_set (by omega)] at hlj ⊢
          by_cases hji : j = i
          · subst hji
            rw [ho] at hoj
            obtain rfl := Option.some.inj hoj
            have := h3 ed hed hb
            have hlt := hedge j o ho ed hed hb
            rw [upd_ne (by omega)]
            unfold Ls
            rw [Array.getD_eq_getD_getElem?, Array.getElem?_eq_getElem (by omega)] at this ⊢
            simpa using this
          · rw [upd_ne hji] at hlj
            have := hc j oj hoj hlj ed hed hb
            by_cases he' : ed.on = i
            · rw [he', upd_self]
            · rw [upd_ne he']; exact this
      unfold wpOp
      rw [ho]
      simp only
      have run : (∀ st, Sub (lks i) st → st.fits o.dst → (∀ id ∈ e.d.new, st.used id = false) → Step P o st (st.app o.dst e.d)) → o.wp P a w (wpAny P .any ops K fuel (listed.setIfInBounds i true)) K := fun hs => by
        have g := hs _ hsub hfits hfresh X a w hr K
        exact Oper.wp_mono hrec g
      rcases F.step with ⟨hg, hs⟩ | ⟨j, b, oj, dj, u, hg, hj, hd, hlk, hcase⟩
      · have : Region.wanted o (yielded ops a.tmps) = true := by unfold Region.wanted; rw [hg]
        rw [if_pos this]
        exact .inl (run hs)
      · rcases hcase with ⟨rfl, hs⟩ | ⟨hne, hed⟩
        · have hy : yielded ops a.tmps j = some b := yielded_of hr hj hd (hsub.env _ _ hlk)
          have : Region.wanted o (yielded ops a.tmps) = true := by unfold Region.wanted; rw [hg]; simp [hy]
          rw [if_pos this]
          exact .inl (run hs)
        · have : ¬ Region.wanted o (yielded ops a.tmps) = true := by rw [wanted_no hr hg hj hd (hsub.env _ _ hlk) hne]; simp
          rw [if_neg this]
          refine hrec _ _ ?_
          have e1 : (stF (Ls listed) 0 es s0).app o.dst e.d = (stF (Ls listed) 0 es s0).put o.dst (.v (.sc undef)) := by rw [hed, app_put]
          rw [e1]
          obtain ⟨ρ, Fp, m1, m2⟩ := hr.mem
          exact hr.pure m1 m2 hfits (by simp only [CR, VI]) (by simp only [C.ok])
end
end Go.Eng
set_option linter.unusedVariables false
namespace Go.Eng
open Go.RowKit (Below)
/-! The evaluator of a region that draws its order. -/
def edgesOf (o : Oper) : List Nat := (o.after.toList.filter (Region.binds .any)).map (·.on)
def allLt (n : Nat) : List Nat → Bool
  | [] => true
  | j :: l => match Nat.blt j n with
    | true => allLt n l
    | false => false
def addN : List Nat → List Nat → List Nat
  | [], b => b
  | x :: l, b => match memN x b with
    | true => addN l b
    | false => addN l (x :: b)
def ancOf (A : List (Nat × List Nat)) (i : Nat) : List Nat := match look A i with
  | some l => l
  | none => []
def cloAnc (A : List (Nat × List Nat)) : List Nat → List Nat → List Nat
  | [], b => b
  | j :: l, b => cloAnc A l (addN (j :: ancOf A j) b)
def mkAnc : Nat → List Oper → List (Nat × List Nat) → Option (List (Nat × List Nat))
  | _, [], A => some A
  | n, o :: os, A => match allLt n (edgesOf o) with
    | true => mkAnc (n + 1) os ((n, cloAnc A (edgesOf o) []) :: A)
    | false => none
def unord (A : List (Nat × List Nat)) (i j : Nat) : Bool := match Nat.beq i j, memN j (ancOf A i), memN i (ancOf A j) with
  | false, false, false => true
  | _, _, _ => false
def dstL : Option Tmp → List Nat
  | some k => [k]
  | none => []
def badS (A : List (Nat × List Nat)) (i : Nat) : Nat → List Oper → List Nat
  | _, [] => []
  | n, o :: os => match unord A i n with
    | true => dstL o.dst ++ badS A i (n + 1) os
    | false => badS A i (n + 1) os
def badR (A : List (Nat × List Nat)) (i : Nat) : Nat → List (List Nat) → List Nat
  | _, [] => []
  | n, t :: ts => match unord A i n with
    | true => t ++ badR A i (n + 1) ts
    | false => badR A i (n + 1) ts
def noneIn : List Nat → List Nat → Bool
  | [], _ => true
  | x :: l, b => match memN x b with
    | true => false
    | false => noneIn l b
def allIn : List Nat → List Nat → Bool
  | [], _ => true
  | x :: l, b => match memN x b with
    | true => allIn l b
    | false => false
def lookN {α : Type} (b : List Nat) (f : Nat → Option α) (k : Nat) : Option α := match memN k b with
  | true => none
  | false => f k
def rstS (s : SL) (bs br : List Nat) : St := { N := s.N, args := s.args, env := lookN bs (look s.env), rows := lookN br (rlook s.rows), used := fun r => memN r s.used }
def wantA (ops : Array Oper) (o : Oper) (lk : St) : Option Bool := match o.guard with
  | none => some true
  | some (j, b) => match ops[j]? with
    | some oj => match oj.dst with
      | some d => match lk.env d with
        | some (.v (.sc (.bool b'))) => match b, b' with
          | true, true => some true
          | false, false => some true
          | true, false => some false
          | false, true => some false
        | some (.v (.sc (.tuple _))) => some false
        | _ => none
      | none => none
    | none => none
def claimA (dst : Option Tmp) : List Hint → Dl → Option (List Prop × Dl × List Hint)
  | .g (.env k c) :: hs, d => match dst, d.put with
    | some k', some c0 => match Nat.beq k k' with
      | true => match claimA dst hs { d with put := some c } with
        | some (ps, r) => some ((c0 = c) :: ps, r)
        | none => none
      | false => some ([], d, .g (.env k c) :: hs)
    | _, _ => some ([], d, .g (.env k c) :: hs)
  | hs, d => some ([], d, hs)
def oneA (P : Program) (ops : Array Oper) (o : Oper) (hs : List Hint) (lk : St) : Option (List Prop × Dl × List Hint) := match wantA ops o lk with
  | some true => match takes o.op, hs with
    | true, h :: hs' => match evOp P o lk h with
      | some (ps, d) => match claimA o.dst hs' d with
        | some (qs, r) => some (ps ++ qs, r)
        | none => none
      | none => none
    | true, [] => none
    | false, _ => match evOp P o lk (.h .auto) with
      | some (ps, d) => match claimA o.dst hs d with
        | some (qs, r) => some (ps ++ qs, r)
        | none => none
      | none => none
  | some false => some ([], ⟨some (.v (.sc undef)), [], [], []⟩, hs)
  | none => none
def goAny (P : Program) (ops : Array Oper) (A : List (Nat × List Nat)) (tss : List (List Nat)) : Nat → List Oper → List (List Nat) → List Hint → SL → Option (List Prop × SL × List Hint)
  | _, [], [], hs, s => some ([], s, hs)
  | n, o :: os, t :: ts, hs, s => match noneIn (dstL o.dst) (badS A n 0 ops.toList), noneIn t (badR A n 0 tss) with
    | true, true => match oneA P ops o hs (rstS s (badS A n 0 ops.toList) (badR A n 0 tss)) with
      | some (ps, d, hs1) => match allIn (touch d) t, s.app o.dst d with
        | true, some s1 => match goAny P ops A tss (n + 1) os ts hs1 s1 with
          | some (qs, r) => some (ps ++ qs, r)
          | none => none
        | _, _ => none
      | none => none
    | _, _ => none
  | _, _, _, _, _ => none
def evAny (P : Program) (ops : Array Oper) (hs : List Hint) (s : SL) : Option (List Prop × SL × List Hint) := match hs with
  | .any tss :: hs => match mkAnc 0 ops.toList [], P.follows .mixedOrders with
    | some A, true => goAny P ops A tss 0 ops.toList tss hs s
    | _, _ => none
  | _ => none
section
variable {P : Program} {X : Ctx} {o : Oper} {lk st st' : St} {a : Act} {w w' : World} {s s' s1 : SL} {ops : Array Oper} {Q Q' : Exit → St → Prop} {A A' : List (Nat × List Nat)} {tss : List (List Nat)}
theorem allLt_S {n : Nat} : ∀ {l : List Nat}, allLt n l = true → ∀ j ∈ l, j < n
  | [], _, j, hj => by simp at hj
  | x :: l, h, j, hj => by
    simp only [allLt] at h
    split at h
    · rename_i hb
      rcases List.mem_cons.1 hj with rfl | hj
      · exact blt_iff.1 hb
      · exact allLt_S h j hj
    · cases h
theorem addN_mem {r : Nat} : ∀ {l b : List Nat}, r ∈ addN l b → r ∈ l ∨ r ∈ b
  | [], b, h => .inr h
  | x :: l, b, h => by
    simp only [addN] at h
    split at h
    · rcases addN_mem h with h | h
      · exact .inl (by simp [h])
      · exact .inr h
    · rcases addN_mem h with h | h
      · exact .inl (by simp [h])
      · rcases List.mem_cons.1 h with rfl | h
        · exact .inl (by simp)
        · exact .inr h
theorem cloAnc_mem {r : Nat} : ∀ {l b : List Nat}, r ∈ cloAnc A l b → (∃ j ∈ l, r = j ∨ r ∈ ancOf A j) ∨ r ∈ b
  | [], b, h => .inr h
  | x :: l, b, h => by
    simp only [cloAnc] at h
    rcases cloAnc_mem h with ⟨j, h1, h2⟩ | h
    · exact .inl ⟨j, by simp [h1], h2⟩
    · rcases addN_mem h with h | h
      · rcases List.mem_cons.1 h with rfl | h
        · exact .inl ⟨r, by simp, .inl rfl⟩
        · exact .inl ⟨x, by simp, .inr h⟩
      · exact .inr h
theorem ancOf_cons {n i : Nat} {l : List Nat} : ancOf ((n, l) :: A) i = if i = n then l else ancOf A i := by
  unfold ancOf
  rw [look_cons]
  by_cases h : i = n
  · subst h; simp [upd_self]
  · rw [upd_ne h, if_neg h]
/-- What mkAnc tells. -/
theorem mkAnc_S : ∀ (os : List Oper) (n : Nat) {A A' : List (Nat × List Nat)}, mkAnc n os A = some A' → (∀ i, n ≤ i → ancOf A i = []) →
    (∀ i, i < n → ancOf A' i = ancOf A i) ∧ (∀ i, n + os.length ≤ i → ancOf A' i = []) ∧
    ∀ i o, os[i]? = some o → (∀ j ∈ edgesOf o, j < n + i) ∧ ∀ j, j ∈ ancOf A' (n + i) → ∃ e ∈ edgesOf o, j = e ∨ j ∈ ancOf A' e
  | [], n, A, A', h, hA => by
    simp only [mkAnc, Option.some.injEq] at h
    subst h
    exact ⟨fun _ _ => rfl, fun i hi => hA i (by simpa using hi), fun i o ho => by simp at ho⟩
  | o :: os, n, A, A', h, hA => by
    simp only [mkAnc] at h
    split at h
    · rename_i hl
      have hlt := allLt_S hl
      obtain ⟨k1, k2, k3⟩ := mkAnc_S os (n + 1) h (fun i hi => by rw [ancOf_cons, if_neg (by omega)]; exact hA i (by omega))
      have hlow : ∀ i, i < n → ancOf A' i = ancOf A i := fun i hi => by rw [k1 i (by omega), ancOf_cons, if_neg (by omega)]
      refine ⟨hlow, fun i hi => k2 i (by simp only [List.length_cons] at hi; omega), fun i o' ho' => ?_⟩
      cases i with
      | zero =>
        simp only [List.getElem?_cons_zero, Option.some.injEq] at ho'
        subst ho'
        refine ⟨by simpa using hlt, fun j hj => ?_⟩
        rw [Nat.add_zero, k1 n (by omega), ancOf_cons, if_pos rfl] at hj
        rcases cloAnc_mem hj with ⟨e, h1, h2⟩ | h2
        · refine ⟨e, h1, h2.imp id fun h2 => ?_⟩
          rw [hlow e (hlt e h1)]
          exact h2
        · simp at h2
      | succ i =>
        have := k3 i o' (by simpa using ho')
        rw [show n + 1 + i = n + (i + 1) by omega] at this
        exact this
    · cases h
theorem unord_S {i j : Nat} (h1 : j ≠ i) (h2 : j ∉ ancOf A i) (h3 : i ∉ ancOf A j) : unord A i j = true := by
  unfold unord
  have e1 : Nat.beq i j = false := by
    cases hb : Nat.beq i j with
    | false => rfl
    | true => exact (h1 (Nat.eq_of_beq_eq_true hb).symm).elim
  rw [e1, memN_false.2 h2, memN_false.2 h3]
theorem badS_S {i j : Nat} {o : Oper} {k : Nat} (hk : o.dst = some k) : ∀ (os : List Oper) (n : Nat), os[j]? = some o → unord A i (n + j) = true → k ∈ badS A i n os := by
  induction j with
  | zero =>
    intro os n ho hu
    cases os with
    | nil => simp at ho
    | cons x os =>
      simp only [List.getElem?_cons_zero, Option.some.injEq] at ho
      subst ho
      rw [Nat.add_zero] at hu
      simp only [badS, hu, hk, dstL]
      simp
  | succ j ih =>
    intro os n ho hu
    cases os with
    | nil => simp at ho
    | cons x os =>
      have := ih os (n + 1) (by simpa using ho) (by rwa [show n + 1 + j = n + (j + 1) by omega])
      simp only [badS]
      split
      · exact List.mem_append_right _ this
      · exact this
theorem badR_S {i j : Nat} {t : List Nat} {k : Nat} (hk : k ∈ t) : ∀ (os : List (List Nat)) (n : Nat), os[j]? = some t → unord A i (n + j) = true → k ∈ badR A i n os := by
  induction j with
  | zero =>
    intro os n ho hu
    cases os with
    | nil => simp at ho
    | cons x os =>
      simp only [List.getElem?_cons_zero, Option.some.injEq] at ho
      subst ho
      rw [Nat.add_zero] at hu
      simp only [badR, hu]
      exact List.mem_append_left _ hk
  | succ j ih =>
    intro os n ho hu
    cases os with
    | nil => simp at ho
    | cons x os =>
      have := ih os (n + 1) (by simpa using ho) (by rwa [show n + 1 + j = n + (j + 1) by omega])
      simp only [badR]
      split
      · exact List.mem_append_right _ this
      · exact this
theorem noneIn_S {b : List Nat} : ∀ {l : List Nat}, noneIn l b = true → ∀ x ∈ l, x ∉ b
  | [], _, x, hx => by simp at hx
  | y :: l, h, x, hx => by
    simp only [noneIn] at h
    split at h
    · cases h
    · rename_i hm
      rcases List.mem_cons.1 hx with rfl | hx
      · exact memN_false.1 hm
      · exact noneIn_S h x hx
theorem allIn_S {b : List Nat} : ∀ {l : List Nat}, allIn l b = true → ∀ x ∈ l, x ∈ b
  | [], _, x, hx => by simp at hx
  | y :: l, h, x, hx => by
    simp only [allIn] at h
    split at h
    · rename_i hm
      rcases List.mem_cons.1 hx with rfl | hx
      · exact memN_iff.1 hm
      · exact allIn_S h x hx
    · cases h
theorem rstS_sub {bs br : List Nat} : Sub (rstS s bs br) s.st := by
  refine ⟨fun k c hk => ?_, fun r row hk => ?_⟩
  · simp only [rstS, lookN] at hk
    split at hk
    · cases hk
    · exact hk
  · simp only [rstS, lookN] at hk
    split at hk
    · cases hk
    · exact hk
theorem rstS_env {bs br : List Nat} {k : Nat} (h : k ∈ bs) : (rstS s bs br).env k = none := by
  simp only [rstS, lookN, memN_iff.2 h]
theorem rstS_rows {bs br : List Nat} {k : Nat} (h : k ∈ br) : (rstS s bs br).rows k = none := by
  simp only [rstS, lookN, memN_iff.2 h]
theorem claimA_S {dst : Option Tmp} : ∀ {hs hs' : List Hint} {d d' : Dl} {ps : List Prop}, claimA dst hs d = some (ps, d', hs') → allT ps → d' = d
  | [], hs', d, d', ps, h, _ => by
    simp only [claimA, Option.some.injEq, Prod.mk.injEq] at h
    exact h.2.1.symm
  | x :: hs, hs', d, d', ps, h, hp => by
    unfold claimA at h
    split at h
    · rename_i k c hs2 heq
      simp only [List.cons.injEq] at heq
      obtain ⟨rfl, rfl⟩ := heq
      split at h
      · rename_i k' c0 hput
        split at h
        · split at h
          · rename_i ps1 r h1
            simp only [Option.some.injEq, Prod.mk.injEq] at h
            obtain ⟨rfl, rfl⟩ := h
            obtain ⟨hp1, hp2⟩ := hp
            have := claimA_S h1 hp2
            rw [this, ← hp1, ← hput]
          · cases h
        · simp only [Option.some.injEq, Prod.mk.injEq] at h
          exact h.2.1.symm
      · simp only [Option.some.injEq, Prod.mk.injEq] at h
        exact h.2.1.symm
    · simp only [Option.some.injEq, Prod.mk.injEq] at h
      exact h.2.1.symm
/-- What oneA tells. -/
theorem oneA_S {hs hs' : List Hint} {ps : List Prop} {d : Dl} (h : oneA P ops o hs lk = some (ps, d, hs')) (hp : allT ps) :
    (o.guard = none ∧ (∀ st, Sub lk st → st.fits o.dst → (∀ id ∈ d.new, st.used id = false) → Step P o st (st.app o.dst d))) ∨
    ∃ j b oj dj u, o.guard = some (j, b) ∧ ops[j]? = some oj ∧ oj.dst = some dj ∧ lk.env dj = some (.v (.sc u)) ∧
      ((u = .bool b ∧ (∀ st, Sub lk st → st.fits o.dst → (∀ id ∈ d.new, st.used id = false) → Step P o st (st.app o.dst d))) ∨ (notB b u = true ∧ d = ⟨some (.v (.sc undef)), [], [], []⟩)) := by
  have key : ∀ {hi : Hint} {hs1 : List Hint} {ps qs : List Prop} {d d' : Dl}, evOp P o lk hi = some (ps, d) → claimA o.dst hs1 d = some (qs, d', hs') → allT (ps ++ qs) → ∀ st, Sub lk st → st.fits o.dst → (∀ id ∈ d'.new, st.used id = false) → Step P o st (st.app o.dst d') := fun h1 h2 hp st k1 k2 k3 => by
    rw [allT_append] at hp
    obtain rfl := claimA_S h2 hp.2
    exact evOp_S _ _ h1 hp.1 st k1 k2 k3
  have want : ∀ {b : Bool}, wantA ops o lk = some b → (b = true ∧ o.guard = none) ∨ ∃ j c oj dj u, o.guard = some (j, c) ∧ ops[j]? = some oj ∧ oj.dst = some dj ∧ lk.env dj = some (.v (.sc u)) ∧ (b = true → u = .bool c) ∧ (b = false → notB c u = true) := fun {b} hw => by
    unfold wantA at hw
    split at hw
    · rename_i hg; simp only [Option.some.injEq] at hw; exact .inl ⟨hw.symm, hg⟩
    · rename_i j c hg
      split at hw
      · rename_i oj hj
        split at hw
        · rename_i dj hd
          split at hw
          · rename_i b' hb
            refine .inr ⟨j, c, oj, dj, _, hg, hj, hd, hb, ?_, ?_⟩ <;> cases c <;> cases b' <;> simp_all [notB]
          · rename_i t hb
            simp only [Option.some.injEq] at hw
            exact .inr ⟨j, c, oj, dj, _, hg, hj, hd, hb, (fun h => by simp [← hw] at h), fun _ => rfl⟩
          · cases hw
        · cases hw
      · cases hw
  unfold oneA at h
  split at h
  · rename_i hw
    have fin : (∀ st, Sub lk st → st.fits o.dst → (∀ id ∈ d.new, st.used id = false) → Step P o st (st.app o.dst d)) → ((o.guard = none ∧ (∀ st, Sub lk st → st.fits o.dst → (∀ id ∈ d.new, st.used id = false) → Step P o st (st.app o.dst d))) ∨
    ∃ j b oj dj u, o.guard = some (j, b) ∧ ops[j]? = some oj ∧ oj.dst = some dj ∧ lk.env dj = some (.v (.sc u)) ∧
      ((u = .bool b ∧ (∀ st, Sub lk st → st.fits o.dst → (∀ id ∈ d.new, st.used id = false) → Step P o st (st.app o.dst d))) ∨ (notB b u = true ∧ d = ⟨some (.v (.sc undef)), [], [], []⟩))) := fun hs => by
      rcases want hw with ⟨_, hg⟩ | ⟨j, c, oj, dj, b', e1, e2, e3, e4, e5, _⟩
      · exact Or.inl ⟨hg, hs⟩
      · exact Or.inr ⟨j, c, oj, dj, b', e1, e2, e3, e4, .inl ⟨e5 rfl, hs⟩⟩
    split at h
    · split at h
      · rename_i p1 d1 h1
        split at h
        · rename_i qs r h2
          simp only [Option.some.injEq, Prod.mk.injEq] at h
          obtain ⟨rfl, rfl⟩ := h
          exact fin (key h1 h2 hp)
        · cases h
      · cases h
    · cases h
    · split at h
      · rename_i p1 d1 h1
        split at h
        · rename_i qs r h2
          simp only [Option.some.injEq, Prod.mk.injEq] at h
          obtain ⟨rfl, rfl⟩ := h
          exact fin (key h1 h2 hp)
        · cases h
      · cases h
  · rename_i hw
    simp only [Option.some.injEq, Prod.mk.injEq] at h
    obtain ⟨rfl, rfl, rfl⟩ := h
    rcases want hw with ⟨hf, _⟩ | ⟨j, c, oj, dj, b', e1, e2, e3, e4, _, e6⟩
    · cases hf
    · exact Or.inr ⟨j, c, oj, dj, b', e1, e2, e3, e4, .inr ⟨e6 rfl, rfl⟩⟩
  · cases h
/-- What goAny tells. -/
structure GoOK (P : Program) (ops : Array Oper) (A : List (Nat × List Nat)) (tss : List (List Nat)) (n : Nat) (os : List Oper) (ts : List (List Nat)) (s s' : St) (es : List En) (lks : List St) : Prop where
  len : es.length = os.length
  lent : ts.length = os.length
  fin : stF (fun _ => true) n es s = s'
  all : ∀ i o e lk t, os[i]? = some o → es[i]? = some e → lks[i]? = some lk → ts[i]? = some t →
    Sub lk (stF (fun j => Nat.blt j (n + i)) n es s) ∧ (∀ k, k ∈ badS A (n + i) 0 ops.toList → lk.env k = none) ∧ (∀ k, k ∈ badR A (n + i) 0 tss → lk.rows k = none) ∧
    (∀ k, o.dst = some k → k ∉ badS A (n + i) 0 ops.toList) ∧ (∀ r ∈ t, r ∉ badR A (n + i) 0 tss) ∧ (∀ r ∈ touch e.d, r ∈ t) ∧ e.dst = o.dst ∧ s.fits o.dst ∧
    (∀ r ∈ e.d.new, s.used r = false ∧ ∀ j e', es[j]? = some e' → j ≠ i → r ∉ e'.d.new) ∧
    ((o.guard = none ∧ (∀ st, Sub lk st → st.fits o.dst → (∀ id ∈ e.d.new, st.used id = false) → Step P o st (st.app o.dst e.d))) ∨
    ∃ j b oj dj u, o.guard = some (j, b) ∧ ops[j]? = some oj ∧ oj.dst = some dj ∧ lk.env dj = some (.v (.sc u)) ∧
      ((u = .bool b ∧ (∀ st, Sub lk st → st.fits o.dst → (∀ id ∈ e.d.new, st.used id = false) → Step P o st (st.app o.dst e.d))) ∨ (notB b u = true ∧ e.d = ⟨some (.v (.sc undef)), [], [], []⟩)))
  lenk : lks.length = os.length
theorem goAny_S : ∀ (os : List Oper) (ts : List (List Nat)) (n : Nat) {hs hs' : List Hint} {s s' : SL} {ps : List Prop}, goAny P ops A tss n os ts hs s = some (ps, s', hs') → allT ps → ∃ es lks, GoOK P ops A tss n os ts s.st s'.st es lks
  | [], [], n, hs, hs', s, s', ps, h, hp => by
    simp only [goAny, Option.some.injEq, Prod.mk.injEq] at h
    obtain ⟨_, rfl, _⟩ := h
    exact ⟨[], [], rfl, rfl, rfl, fun i o e lk t ho => by simp at ho, rfl⟩
  | [], _ :: _, n, hs, hs', s, s', ps, h, hp => by simp only [goAny] at h; cases h
  | _ :: _, [], n, hs, hs', s, s', ps, h, hp => by simp only [goAny] at h; cases h
  | o :: os, t :: ts, n, hs, hs', s, s', ps, h, hp => by
    simp only [goAny] at h
    split at h
    · rename_i hn1 hn2
      split at h
      · rename_i p1 d hs1 h1
        split at h
        · rename_i s1 hin h2
          split at h
          · rename_i qs r h3
            simp only [Option.some.injEq, Prod.mk.injEq] at h
            obtain ⟨rfl, rfl⟩ := h
            rw [allT_append] at hp
            obtain ⟨es, lks, G⟩ := goAny_S os ts (n + 1) h3 hp.2
            obtain ⟨a1, a2, a3⟩ := SL.app_st h2
            have hstep := oneA_S h1 hp.1
            have hcur : ∀ (L : Nat → Bool), L n = true → stF L n (⟨o.dst, d⟩ :: es) s.st = stF L (n + 1) es s1.st := fun L hL => by
              simp only [stF, hL]
              rw [a1]
            refine ⟨⟨o.dst, d⟩ :: es, rstS s (badS A n 0 ops.toList) (badR A n 0 tss) :: lks, by simp [G.len], by simp [G.lent], ?_, ?_, by simp [G.lenk]⟩
            · rw [hcur _ rfl]; exact G.fin
            · intro i o' e lk t' ho he hlk ht
              have hnew : ∀ (j : Nat) (e' : En), es[j]? = some e' → ∀ r, r ∈ e'.d.new → s.st.used r = false ∧ r ∉ d.new := fun j e' hj r hr => by
                have hjl : j < os.length := by have := (List.getElem?_eq_some_iff.1 hj).1; have := G.len; omega
                obtain ⟨oj, hoj⟩ : ∃ oj, os[j]? = some oj := ⟨os[j], by simp [hjl]⟩
                obtain ⟨lj, hlj⟩ : ∃ lj, lks[j]? = some lj := ⟨lks[j]'(by rw [G.lenk]; exact hjl), by simp⟩
                obtain ⟨tj, htj⟩ : ∃ tj, ts[j]? = some tj := ⟨ts[j]'(by rw [G.lent]; exact hjl), by simp⟩
                obtain ⟨_, _, _, _, _, _, _, _, g, _⟩ := G.all j oj e' lj tj hoj hj hlj htj
                have := (g r hr).1
                rw [a1] at this
                simp only [St.app, newUsed_at, Bool.or_eq_false_iff] at this
                exact ⟨this.2, memN_false.1 this.1⟩
              cases i with
              | zero =>
                rw [List.getElem?_cons_zero, Option.some.injEq] at ho he hlk ht
                subst ho; subst he; subst hlk; subst ht
                rw [Nat.add_zero]
                refine ⟨?_, fun k hk => rstS_env hk, fun k hk => rstS_rows hk, fun k hk => noneIn_S hn1 k (by rw [hk]; simp [dstL]), noneIn_S hn2, allIn_S hin, rfl, a2, fun r hr => ⟨a3 r hr, ?_⟩, hstep⟩
                · have : stF (fun j => Nat.blt j n) n (⟨o.dst, d⟩ :: es) s.st = s.st := by
                    rw [stF_congr (L := fun j => Nat.blt j n) (L' := fun _ => false) _ n _ (fun j hj => by
                      cases hb : Nat.blt j n with
                      | false => rfl
                      | true => have := blt_iff.1 hb; omega)]
                    have : ∀ (es : List En) (n : Nat) (st : St), stF (fun _ => false) n es st = st := fun es => by
                      induction es with
                      | nil => intro n st; rfl
                      | cons e es ih => intro n st; simp only [stF]; exact ih _ _
                    exact this _ _ _
                  rw [this]
                  exact rstS_sub
                · intro j e' hj hne hm
                  cases j with
                  | zero => exact hne rfl
                  | succ j => exact (hnew j e' (by simpa using hj) r hm).2 hr
              | succ i =>
                simp only [List.getElem?_cons_succ] at ho he hlk ht
                obtain ⟨g1, g2, g3, g4, g5, g6, g7, g8, g9, g10⟩ := G.all i o' e lk t' ho he hlk ht
                rw [show n + 1 + i = n + (i + 1) by omega] at g1 g2 g3 g4 g5
                refine ⟨?_, g2, g3, g4, g5, g6, g7, ?_, fun r hr => ⟨(hnew i e he r hr).1, ?_⟩, g10⟩
                · rw [hcur (fun j => Nat.blt j (n + (i + 1))) (blt_iff.2 (by omega))]; exact g1
                · intro k hk
                  have := g8 k hk
                  rw [a1] at this
                  have e1 := (app_N (st := s.st) (e := ⟨o.dst, d⟩)).1
                  simp only at e1
                  rwa [e1] at this
                · intro j e' hj hne
                  cases j with
                  | zero =>
                    simp only [List.getElem?_cons_zero, Option.some.injEq] at hj
                    subst hj
                    exact (hnew i e he r hr).2
                  | succ j => exact (g9 r hr).2 j e' (by simpa using hj) (by omega)
          · cases h
        · cases h
      · cases h
    · cases h
theorem evAny_S {id : Nat} {hs hs' : List Hint} {ps : List Prop} (h : evAny P ops hs s = some (ps, s', hs')) (hp : allT ps) (hq : Q .normal s'.st) : TW P (.region id ops true) s.st Q := by
  unfold evAny at h
  split at h
  · rename_i tss hs
    split at h
    · rename_i A hA hm
      obtain ⟨es, lks, G⟩ := goAny_S _ _ _ h hp
      obtain ⟨m1, m2, m3⟩ := mkAnc_S _ _ hA (fun i _ => rfl)
      have hsz : ops.toList.length = ops.size := by simp
      have hget : ∀ i o, ops[i]? = some o → ops.toList[i]? = some o := fun i o ho => by rw [Array.getElem?_toList]; exact ho
      intro X a w hr
      refine wp_region_any hm ?_
      have edge : ∀ (o : Oper) (ed : Edge), ed ∈ o.after.toList → Region.binds .any ed = true → ed.on ∈ edgesOf o := fun o ed h1 h2 => by
        unfold edgesOf
        exact List.mem_map.2 ⟨ed, List.mem_filter.2 ⟨h1, h2⟩, rfl⟩
      have hrd := hr.drew
      refine wpAny_of (X := X) (s0 := s.st) (es := es) (lks := fun i => lks.getD i s.st) (anc := ancOf A) (by rw [G.len, hsz]) ?_ ?_ ?_ ?_ G.fin (K := fun e a' w' => ∃ st', Q e st' ∧ R X st' a' w') (fun a' w' hr' => ⟨s'.st, hq, hr'⟩) ops.size (Array.replicate ops.size false) a _ (by simp) ?_ ?_ ?_
      · intro i o e ho he
        have hi : i < ops.toList.length := by have := (List.getElem?_eq_some_iff.1 he).1; have := G.len; omega
        obtain ⟨t, ht⟩ : ∃ t, tss[i]? = some t := ⟨tss[i]'(by rw [G.lent]; exact hi), by simp⟩
        have hlk : lks[i]? = some (lks.getD i s.st) := by
          rw [List.getD_eq_getElem?_getD, List.getElem?_eq_getElem (by rw [G.lenk]; exact hi)]; rfl
        obtain ⟨g1, g2, g3, g4, g5, g6, g7, g8, g9, g10⟩ := G.all i o e _ t (hget i o ho) he hlk ht
        simp only [Nat.zero_add] at g1 g2 g3 g4 g5
        have other : ∀ (j : Nat) (e' : En), es[j]? = some e' → ∃ oj tj, ops.toList[j]? = some oj ∧ tss[j]? = some tj ∧ e'.dst = oj.dst ∧ ∀ r ∈ touch e'.d, r ∈ tj := fun j e' hj => by
          have hjl : j < ops.toList.length := by have := (List.getElem?_eq_some_iff.1 hj).1; have := G.len; omega
          obtain ⟨oj, hoj⟩ : ∃ oj, ops.toList[j]? = some oj := ⟨ops.toList[j], by simp⟩
          obtain ⟨lj, hlj⟩ : ∃ lj, lks[j]? = some lj := ⟨lks[j]'(by rw [G.lenk]; exact hjl), by simp⟩
          obtain ⟨tj, htj⟩ : ∃ tj, tss[j]? = some tj := ⟨tss[j]'(by rw [G.lent]; exact hjl), by simp⟩
          obtain ⟨_, _, _, _, _, g6, g7, _, _, _⟩ := G.all j oj e' lj tj hoj hj hlj htj
          exact ⟨oj, tj, hoj, htj, g7, g6⟩
        have keyS : ∀ (e' : En) (oj : Oper) (k : Nat), e'.dst = oj.dst → e'.key = some k → oj.dst = some k := fun e' oj k h1 h2 => by
          unfold En.key at h2
          split at h2
          · rw [← h1]; exact h2
          · cases h2
        have key1 : ∀ (j : Nat) (e' : En), es[j]? = some e' → j ≠ i → j ∉ ancOf A i → i ∉ ancOf A j → ∀ k, e'.key = some k → k ∈ badS A i 0 ops.toList := fun j e' hj d1 d2 d3 k hk => by
          obtain ⟨oj, tj, o1, o2, o3, o4⟩ := other j e' hj
          exact badS_S (keyS e' oj k o3 hk) _ 0 o1 (by rw [Nat.zero_add]; exact unord_S d1 d2 d3)
        have key2 : ∀ (j : Nat) (e' : En), es[j]? = some e' → j ≠ i → j ∉ ancOf A i → i ∉ ancOf A j → ∀ r, r ∈ touch e'.d → r ∈ badR A i 0 tss := fun j e' hj d1 d2 d3 r hr => by
          obtain ⟨oj, tj, o1, o2, o3, o4⟩ := other j e' hj
          exact badR_S (o4 r hr) _ 0 o2 (by rw [Nat.zero_add]; exact unord_S d1 d2 d3)
        exact { sub := g1
                env := fun j e' hj d1 d2 d3 k hk => g2 k (key1 j e' hj d1 d2 d3 k hk)
                rows := fun j e' hj d1 d2 d3 r hr => g3 r (key2 j e' hj d1 d2 d3 r hr)
                apart := fun j e' hj d1 d2 d3 => ⟨fun k hk hk' => g4 k (keyS e o k g7 hk) (key1 j e' hj d1 d2 d3 k hk'), fun r hr hr' => g5 r (g6 r hr) (key2 j e' hj d1 d2 d3 r hr')⟩
                fresh := g9
                dst := g7
                fits := g8
                step := g10 }
      · intro i o ho ed h1 h2
        have := (m3 i o (hget i o ho)).1 _ (edge o ed h1 h2)
        omega
      · intro i o ho j hj
        obtain ⟨e, h1, h2⟩ := (m3 i o (hget i o ho)).2 j (by rwa [Nat.zero_add])
        unfold edgesOf at h1
        obtain ⟨ed, h3, rfl⟩ := List.mem_map.1 h1
        obtain ⟨h4, h5⟩ := List.mem_filter.1 h3
        exact ⟨ed, h4, h5, h2⟩
      · intro i hi
        exact m2 i (by rw [hsz]; omega)
      · have : ∀ n, n ≤ ops.size → cnt (Ls (Array.replicate ops.size false)) n = n := by
          intro n
          induction n with
          | zero => intro _; rfl
          | succ n ih =>
            intro hn
            have e1 : Ls (Array.replicate ops.size false) n = false := by
              unfold Ls
              rw [Array.getD_eq_getD_getElem?, Array.getElem?_eq_getElem (by simp; omega)]
              simp
            simp only [cnt, e1, ih (by omega)]
        exact this _ (Nat.le_refl _)
      · intro i o ho hl
        exfalso
        have hi : i < ops.size := by
          have := (List.getElem?_eq_some_iff.1 (hget i o ho)).1
          omega
        unfold Ls at hl
        rw [Array.getD_eq_getD_getElem?, Array.getElem?_eq_getElem (by simpa using hi)] at hl
        simp at hl
      · have : stF (Ls (Array.replicate ops.size false)) 0 es s.st = s.st := by
          have hl : ∀ j, j < es.length → Ls (Array.replicate ops.size false) j = false := fun j hj => by
            have := G.len
            unfold Ls
            rw [Array.getD_eq_getD_getElem?, Array.getElem?_eq_getElem (by simp; omega)]
            simp
          have gen : ∀ (es : List En) (L : Nat → Bool) (n : Nat) (st : St), (∀ j, j < es.length → L (n + j) = false) → stF L n es st = st := fun es => by
            induction es with
            | nil => intro L n st _; rfl
            | cons e es ih =>
              intro L n st h
              simp only [stF]
              have h0 := h 0 (by simp)
              rw [Nat.add_zero] at h0
              rw [h0]
              exact ih L (n + 1) st (fun j hj => by have := h (j + 1) (by simp; omega); rwa [show n + (j + 1) = n + 1 + j by omega] at this)
          exact gen es _ 0 s.st (fun j hj => by rw [Nat.zero_add]; exact hl j hj)
        rw [this]
        exact hrd
    · cases h
  · cases h
end
end Go.Eng
set_option linter.unusedVariables false
namespace Go.Eng
open Go.RowKit (Below)
def evGs : List Hint → SL → Option (List Prop × List Hint × SL)
  | .g g :: hs, s => match evG g s with
    | some (ps, s1) => match evGs hs s1 with
      | some (qs, r) => some (ps ++ qs, r)
      | none => none
    | none => none
  | .skip :: hs, s => some ([], hs, s)
  | hs, s => some ([], hs, s)
def stepS (P : Program) (o : Oper) (hs : List Hint) (s : SL) : Option (List Prop × SL × List Hint) := match takes o.op, hs with
  | true, h :: hs' => match evOp P o s.st h with
    | some (ps, d) => match s.app o.dst d with
      | some s1 => some (ps, s1, hs')
      | none => none
    | none => none
  | true, [] => none
  | false, _ => match evOp P o s.st (.h .auto) with
    | some (ps, d) => match s.app o.dst d with
      | some s1 => some (ps, s1, hs)
      | none => none
    | none => none
def skipS (o : Oper) (s : SL) : Option SL := match fitsB s.N o.dst with
  | true => some { s with env := putEnv s.env o.dst (some (.v (.sc undef))) }
  | false => none
/-- Is the operation wanted? -/
def wantS (ops : Array Oper) (o : Oper) (s : SL) : Option Bool := match o.guard with
  | none => some true
  | some (j, b) => match ops[j]? with
    | some oj => match oj.dst with
      | some d => match look s.env d with
        | some (.v (.sc (.bool b'))) => match b, b' with
          | true, true => some true
          | false, false => some true
          | true, false => some false
          | false, true => some false
        | some (.v (.sc (.tuple _))) => some false
        | _ => none
      | none => none
    | none => none
def evSeg (P : Program) (ops : Array Oper) : List Oper → List Hint → SL → Option (List Prop × SL × List Hint)
  | [], hs, s => some ([], s, hs)
  | o :: os, hs, s => match evGs hs s with
    | some (p0, hs0, s0) => match wantS ops o s0 with
      | some true => match stepS P o hs0 s0 with
        | some (p1, s1, hs1) => match evSeg P ops os hs1 s1 with
          | some (p2, r) => some (p0 ++ (p1 ++ p2), r)
          | none => none
        | none => none
      | some false => match skipS o s0 with
        | some s1 => match evSeg P ops os hs0 s1 with
          | some (p2, r) => some (p0 ++ p2, r)
          | none => none
        | none => none
      | none => none
    | none => none
section
variable {P : Program} {X : Ctx} {o : Oper} {lk st st' : St} {a : Act} {w w' : World} {s s' s1 : SL} {ops : Array Oper} {Q Q' : Exit → St → Prop}
theorem evGs_S : ∀ {hs hs' : List Hint} {s s' : SL} {ps : List Prop}, evGs hs s = some (ps, hs', s') → allT ps → Le s.st s'.st
  | [], hs', s, s', ps, h, _ => by
    simp only [evGs, Option.some.injEq, Prod.mk.injEq] at h
    obtain ⟨_, _, rfl⟩ := h
    exact Le.refl
  | .h x :: hs, hs', s, s', ps, h, _ => by
    simp only [evGs, Option.some.injEq, Prod.mk.injEq] at h
    obtain ⟨_, _, rfl⟩ := h
    exact Le.refl
  | .call x :: hs, hs', s, s', ps, h, _ => by
    simp only [evGs, Option.some.injEq, Prod.mk.injEq] at h
    obtain ⟨_, _, rfl⟩ := h
    exact Le.refl
  | .skip :: hs, hs', s, s', ps, h, _ => by
    simp only [evGs, Option.some.injEq, Prod.mk.injEq] at h
    obtain ⟨_, _, rfl⟩ := h
    exact Le.refl
  | .any x :: hs, hs', s, s', ps, h, _ => by
    simp only [evGs, Option.some.injEq, Prod.mk.injEq] at h
    obtain ⟨_, _, rfl⟩ := h
    exact Le.refl
  | .g g :: hs, hs', s, s', ps, h, hp => by
    simp only [evGs] at h
    split at h
    · rename_i p1 s1 h1
      split at h
      · rename_i qs r h2
        simp only [Option.some.injEq, Prod.mk.injEq] at h
        obtain ⟨rfl, rfl⟩ := h
        rw [allT_append] at hp
        exact (evG_S h1 hp.1).trans (evGs_S h2 hp.2)
      · cases h
    · cases h
theorem stepS_S {hs hs' : List Hint} {ps : List Prop} (h : stepS P o hs s = some (ps, s', hs')) (hp : allT ps) : Step P o s.st s'.st := by
  have key : ∀ {hi : Hint} {ps : List Prop} {d : Dl}, evOp P o s.st hi = some (ps, d) → allT ps → s.app o.dst d = some s' → Step P o s.st s'.st := fun h1 hp h2 => by
    obtain ⟨k1, k2, k3⟩ := SL.app_st h2
    rw [k1]
    exact evOp_S _ _ h1 hp _ Sub.refl k2 k3
  unfold stepS at h
  split at h
  · split at h
    · rename_i p1 d h1
      split at h
      · rename_i s1 h2
        simp only [Option.some.injEq, Prod.mk.injEq] at h
        obtain ⟨rfl, rfl, rfl⟩ := h
        exact key h1 hp h2
      · cases h
    · cases h
  · cases h
  · split at h
    · rename_i p1 d h1
      split at h
      · rename_i s1 h2
        simp only [Option.some.injEq, Prod.mk.injEq] at h
        obtain ⟨rfl, rfl, rfl⟩ := h
        exact key h1 hp h2
      · cases h
    · cases h
theorem skipS_S (h : skipS o s = some s') : s'.st = s.st.put o.dst (.v (.sc undef)) ∧ s.st.fits o.dst := by
  unfold skipS at h
  split at h
  · rename_i hf
    simp only [Option.some.injEq] at h
    subst h
    refine ⟨?_, fitsB_S hf rfl⟩
    cases o.dst with
    | none => rfl
    | some k => simp only [SL.st, putEnv, look_cons, St.put]
  · cases h
theorem Seg.le {l : List Nat} {st1 : St} (h : Le st st1) (k : Seg P ops l st1 st') : Seg P ops l st st' := fun X a w hr => k X a w (h X a w hr)
theorem evSeg_S : ∀ (os : List Oper) (n : Nat) {hs hs' : List Hint} {s s' : SL} {ps : List Prop}, (∀ i, os[i]? = ops[n + i]?) → evSeg P ops os hs s = some (ps, s', hs') → allT ps → Seg P ops (List.range' n os.length) s.st s'.st
  | [], n, hs, hs', s, s', ps, _, h, _ => by
    simp only [evSeg, Option.some.injEq, Prod.mk.injEq] at h
    obtain ⟨_, rfl, _⟩ := h
    exact Seg.nil
  | o :: os, n, hs, hs', s, s', ps, hi, h, hp => by
    have ho : ops[n]? = some o := by have := hi 0; simpa using this.symm
    have hi' : ∀ i, os[i]? = ops[n + 1 + i]? := fun i => by
      have := hi (i + 1)
      rw [List.getElem?_cons_succ] at this
      rw [this]
      congr 1
      omega
    simp only [List.length_cons, List.range'_succ]
    simp only [evSeg] at h
    split at h
    · rename_i p0 hs0 s0 h0
      split at h
      · rename_i hw
        split at h
        · rename_i p1 s1 hs1 h1
          split at h
          · rename_i p2 r h2
            simp only [Option.some.injEq, Prod.mk.injEq] at h
            obtain ⟨rfl, rfl⟩ := h
            simp only [allT_append] at hp
            refine Seg.le (evGs_S h0 hp.1) ?_
            have k1 := stepS_S h1 hp.2.1
            have k2 := evSeg_S os (n + 1) hi' h2 hp.2.2
            unfold wantS at hw
            split at hw
            · rename_i hg; exact Seg.cons ho hg k1 k2
            · rename_i j b hg
              split at hw
              · rename_i oj hj
                split at hw
                · rename_i d hd
                  split at hw
                  · rename_i b' hb
                    have e : b' = b := by cases b <;> cases b' <;> simp_all
                    subst e
                    exact Seg.yes ho hg hj hd hb k1 k2
                  · cases hw
                  · cases hw
                · cases hw
              · cases hw
          · cases h
        · cases h
      · rename_i hw
        split at h
        · rename_i s1 h1
          split at h
          · rename_i p2 r h2
            simp only [Option.some.injEq, Prod.mk.injEq] at h
            obtain ⟨rfl, rfl⟩ := h
            simp only [allT_append] at hp
            refine Seg.le (evGs_S h0 hp.1) ?_
            obtain ⟨k1, k3⟩ := skipS_S h1
            have k2 := evSeg_S os (n + 1) hi' h2 hp.2
            rw [k1] at k2
            unfold wantS at hw
            split at hw
            · cases hw
            · rename_i j b hg
              split at hw
              · rename_i oj hj
                split at hw
                · rename_i d hd
                  split at hw
                  · rename_i b' hb
                    have e : b' ≠ b := by cases b <;> cases b' <;> simp_all
                    exact Seg.no ho hg hj hd hb e k3 k2
                  · rename_i u hb
                    exact Seg.noU ho hg hj hd hb rfl k3 k2
                  · cases hw
                · cases hw
              · cases hw
          · cases h
        · cases h
      · cases h
    · cases h
end
/-! Code. -/
def evReg (P : Program) (ops : Array Oper) (draw : Bool) (hs : List Hint) (s : SL) : Option (List Prop × SL × List Hint) := match draw with
  | false => evSeg P ops ops.toList hs s
  | true => match evGs hs s with
    | some (ps, hs1, s1) => match evAny P ops hs1 s1 with
      | some (qs, r) => some (ps ++ qs, r)
      | none => none
    | none => none
inductive Cur where
  | code (c : Code)
  | out (e : Exit)
inductive Fr where
  | seq (c : Code)
  | blk (id : Nat)
structure Stop where
  cur : Cur
  K : List Fr
  s : SL
  hs : List Hint
def evK (P : Program) : Nat → Cur → List Fr → List Hint → SL → Option (List Prop × Stop)
  | 0, c, K, hs, s => some ([], ⟨c, K, s, hs⟩)
  | n + 1, .code c, K, hs, s => match c with
    | .skip => evK P n (.out .normal) K hs s
    | .label _ => evK P n (.out .normal) K hs s
    | .ret => evK P n (.out .ret) K hs s
    | .exit id => evK P n (.out (.exit id)) K hs s
    | .seq x y => evK P n (.code x) (.seq y :: K) hs s
    | .block id c => evK P n (.code c) (.blk id :: K) hs s
    | .cond c x y => match evGs hs s with
      | some (ps, hs1, s1) => match s1.st.ev c with
        | some (.v (.sc (.bool true))) => match evK P n (.code x) K hs1 s1 with
          | some (qs, r) => some (ps ++ qs, r)
          | none => none
        | some (.v (.sc (.bool false))) => match evK P n (.code y) K hs1 s1 with
          | some (qs, r) => some (ps ++ qs, r)
          | none => none
        | _ => none
      | none => none
    | .region _ ops draw => match evReg P ops draw hs s with
      | some (ps, s1, hs1) => match evK P n (.out .normal) K hs1 s1 with
        | some (qs, r) => some (ps ++ qs, r)
        | none => none
      | none => none
    | .loop c => some ([], ⟨.code (.loop c), K, s, hs⟩)
    | _ => none
  | n + 1, .out e, K, hs, s => match K with
    | [] => some ([], ⟨.out e, [], s, hs⟩)
    | .seq y :: K => match e with
      | .normal => evK P n (.code y) K hs s
      | e => evK P n (.out e) K hs s
    | .blk id :: K => match e with
      | .exit id' => match Nat.beq id' id with
        | true => evK P n (.out .normal) K hs s
        | false => evK P n (.out (.exit id')) K hs s
      | e => evK P n (.out e) K hs s
def KQ (P : Program) : List Fr → (Exit → St → Prop) → Exit → St → Prop
  | [], Q => Q
  | .seq y :: K, Q => After P y (KQ P K Q)
  | .blk id :: K, Q => InBlock id (KQ P K Q)
def Now (P : Program) (Q : Exit → St → Prop) (K : List Fr) (st : St) : Cur → Prop
  | .code c => TW P c st (KQ P K Q)
  | .out e => KQ P K Q e st
def Stop.OK (P : Program) (Q : Exit → St → Prop) (r : Stop) : Prop := Now P Q r.K r.s.st r.cur
section
variable {P : Program} {X : Ctx} {o : Oper} {lk st st' : St} {a : Act} {w w' : World} {s s' s1 : SL} {ops : Array Oper} {Q Q' : Exit → St → Prop}
theorem evReg_S {id : Nat} {draw : Bool} {hs hs' : List Hint} {ps : List Prop} (h : evReg P ops draw hs s = some (ps, s', hs')) (hp : allT ps) (hq : Q .normal s'.st) : TW P (.region id ops draw) s.st Q := by
  unfold evReg at h
  split at h
  · refine TW.region (st' := s'.st) ?_ hq
    have := evSeg_S ops.toList 0 (fun i => by simp) h hp
    rw [List.range_eq_range']
    simpa using this
  · split at h
    · rename_i p1 hs1 s1 h1
      split at h
      · rename_i qs r h2
        simp only [Option.some.injEq, Prod.mk.injEq] at h
        obtain ⟨rfl, rfl⟩ := h
        rw [allT_append] at hp
        exact TW.le (evGs_S h1 hp.1) (evAny_S h2 hp.2 hq)
      · cases h
    · cases h
theorem evK_S : ∀ (n : Nat) {c : Cur} {K : List Fr} {hs : List Hint} {s : SL} {ps : List Prop} {r : Stop}, evK P n c K hs s = some (ps, r) → allT ps → r.OK P Q → Now P Q K s.st c
  | 0, c, K, hs, s, ps, r, h, hp, hr => by
    simp only [evK, Option.some.injEq, Prod.mk.injEq] at h
    obtain ⟨_, rfl⟩ := h
    exact hr
  | n + 1, .code c, K, hs, s, ps, r, h, hp, hr => by
    simp only [Now]
    simp only [evK] at h
    split at h
    · exact TW.skip (evK_S n h hp hr)
    · exact TW.label (evK_S n h hp hr)
    · exact TW.ret (evK_S n h hp hr)
    · exact TW.exit (evK_S n h hp hr)
    · exact TW.seq (evK_S n h hp hr)
    · exact TW.block (evK_S n h hp hr)
    · split at h
      · rename_i p1 hs1 s1 h1
        split at h
        · rename_i hc
          split at h
          · rename_i qs r' h2
            simp only [Option.some.injEq, Prod.mk.injEq] at h
            obtain ⟨rfl, rfl⟩ := h
            rw [allT_append] at hp
            exact TW.le (evGs_S h1 hp.1) (TW.cond hc (fun _ => evK_S n h2 hp.2 hr) (fun e => by cases e))
          · cases h
        · rename_i hc
          split at h
          · rename_i qs r' h2
            simp only [Option.some.injEq, Prod.mk.injEq] at h
            obtain ⟨rfl, rfl⟩ := h
            rw [allT_append] at hp
            exact TW.le (evGs_S h1 hp.1) (TW.cond hc (fun e => by cases e) (fun _ => evK_S n h2 hp.2 hr))
          · cases h
        · cases h
      · cases h
    · split at h
      · rename_i p1 s1 hs1 h1
        split at h
        · rename_i qs r' h2
          simp only [Option.some.injEq, Prod.mk.injEq] at h
          obtain ⟨rfl, rfl⟩ := h
          rw [allT_append] at hp
          exact evReg_S h1 hp.1 (evK_S n h2 hp.2 hr)
        · cases h
      · cases h
    · simp only [Option.some.injEq, Prod.mk.injEq] at h
      obtain ⟨rfl, rfl⟩ := h
      exact hr
    · cases h
  | n + 1, .out e, K, hs, s, ps, r, h, hp, hr => by
    simp only [Now]
    simp only [evK] at h
    split at h
    · simp only [Option.some.injEq, Prod.mk.injEq] at h
      obtain ⟨rfl, rfl⟩ := h
      exact hr
    · rename_i y K'
      split at h
      · exact evK_S n h hp hr
      · rename_i e' hne
        have := evK_S n h hp hr
        cases e with
        | normal => exact (hne rfl).elim
        | _ => exact this
    · rename_i id K'
      split at h
      · rename_i id'
        split at h
        · rename_i hb
          have := evK_S n h hp hr
          simp only [KQ, InBlock]
          rw [if_pos (Nat.eq_of_beq_eq_true hb)]
          exact this
        · rename_i hb
          have := evK_S n h hp hr
          simp only [KQ, InBlock]
          rw [if_neg (beq_false hb)]
          exact this
      · rename_i e' hne
        have := evK_S n h hp hr
        cases e with
        | exit i => exact (hne i rfl).elim
        | _ => exact this
end
end Go.Eng
set_option linter.unusedVariables false
namespace Go.Eng
open Go.RowKit (Below)
/-! From cut to cut. -/
def enumC (n : Nat) : List C → List (Nat × C)
  | [] => []
  | c :: cs => (n, c) :: enumC (n + 1) cs
/-- What is read alone need not be told of the arguments. -/
def deadRo : List Arg → List C → List C
  | .io _ :: as, c :: cs => c :: deadRo as cs
  | _ :: as, _ :: cs => .dead :: deadRo as cs
  | _, _ => []
/-- The state at a function's entry. -/
def entryS (args : List Arg) (ntmps : Nat) : SL :=
  { N := max args.length ntmps, args := deadRo args (matL (args.map Arg.tree) 0).1, env := enumC 0 (matL (args.map Arg.tree) 0).1, rows := setKs [] (matSet 0 (matL (args.map Arg.tree) 0).2), used := addKs [] (matNew 0 (matL (args.map Arg.tree) 0).2) }
def eqVL : List V → List V → Option (List Prop)
  | [], [] => some []
  | x :: xs, y :: ys => match eqV x y, eqVL xs ys with
    | some p, some q => some (p ++ q)
    | _, _ => none
  | _, _ => none
/-- What is told at a return. -/
structure RH where
  rs : List ResultVar
  args : List Arg
  outs : List V
  res : V
  O : Orc
  fuel : Nat
def evExits (P : Program) (r : RH) (s : SL) : Option (List Prop) := match resC P s.st r.rs with
  | some cr => match mapCloS (cloS r.O (rlook s.rows) r.fuel) [] (ioCs r.args s.args ++ [cr]) with
    | some (ps, ts, _) => match eqVL ts (r.outs ++ [r.res]) with
      | some qs => some (ps ++ qs)
      | none => none
    | none => none
  | none => none
def exEq : Exit → Exit → Bool
  | .normal, .normal => true
  | .ret, .ret => true
  | .exit i, .exit j => Nat.beq i j
  | _, _ => false
/-- To a return. -/
def runRet (P : Program) (n : Nat) (c : Cur) (K : List Fr) (hs : List Hint) (s : SL) (r : RH) : Option (List Prop) := match evK P n c K hs s with
  | some (ps, ⟨.out e, [], s1, hs1⟩) => match evGs hs1 s1, (exEq e .normal || exEq e .ret) with
    | some (qs, [], s2), true => match evExits P r s2 with
      | some us => some (ps ++ (qs ++ us))
      | none => none
    | _, _ => none
  | _ => none
/-- To a cut. -/
def runAt (P : Program) (n : Nat) (c : Cur) (K : List Fr) (hs : List Hint) (s : SL) (e : Exit) (t : TL) (l : List (Nat × Nat)) : Option (List Prop) := match evK P n c K hs s with
  | some (ps, ⟨.out e1, [], s1, hs1⟩) => match evGs hs1 s1, exEq e1 e with
    | some (qs, [], s2), true => match evM s2 t l with
      | some us => some (ps ++ (qs ++ us))
      | none => none
    | _, _ => none
  | _ => none
/-- To a cut within: a loop, or any other piece. -/
def runTo (P : Program) (n : Nat) (c : Cur) (K : List Fr) (hs : List Hint) (s : SL) (t : TL) (l : List (Nat × Nat)) : Option (List Prop × Cur × List Fr) := match evK P n c K hs s with
  | some (ps, ⟨b, K1, s1, hs1⟩) => match evGs hs1 s1 with
    | some (qs, [], s2) => match evM s2 t l with
      | some us => some (ps ++ (qs ++ us), b, K1)
      | none => none
    | _ => none
  | _ => none
/-- What a function's code must come to. -/
def FinQ (P : Program) (fn : Func) (args : List Arg) (outs : List V) (res : V) : Exit → St → Prop := fun e st => (e = .normal ∨ e = .ret) ∧ ∃ st', Le st st' ∧ Exits P fn args outs res st'
section
variable {P : Program} {X : Ctx} {o : Oper} {lk st st' : St} {a : Act} {w w' : World} {s s' s1 : SL} {ops : Array Oper} {Q Q' : Exit → St → Prop} {n : Nat} {c : Cur} {K : List Fr} {hs : List Hint} {ps : List Prop}
theorem exEq_S {e e' : Exit} (h : exEq e e' = true) : e = e' := by
  cases e <;> cases e' <;> simp only [exEq, reduceCtorEq] at h <;> first | rfl | rw [Nat.eq_of_beq_eq_true h]
theorem eqVL_S : ∀ {xs ys : List V} {ps : List Prop}, eqVL xs ys = some ps → allT ps → xs = ys
  | [], ys, ps, h, hp => by
    cases ys with
    | nil => rfl
    | cons => simp [eqVL] at h
  | x :: xs, ys, ps, h, hp => by
    cases ys with
    | nil => simp [eqVL] at h
    | cons y ys =>
      simp only [eqVL] at h
      split at h
      · rename_i p q h1 h2
        simp only [Option.some.injEq] at h
        subst h
        rw [allT_append] at hp
        rw [eqV_S h1 hp.1, eqVL_S h2 hp.2]
      · cases h
theorem enumC_S : ∀ (cs : List C) (n k : Nat), look (enumC n cs) (n + k) = cs[k]?
  | [], n, k => rfl
  | c :: cs, n, 0 => by
    simp only [enumC, look, Nat.add_zero, show Nat.beq n n = true from Nat.beq_refl n]
    rfl
  | c :: cs, n, k + 1 => by
    simp only [enumC, look, List.getElem?_cons_succ]
    rw [show Nat.beq n (n + (k + 1)) = false by
      cases e : Nat.beq n (n + (k + 1)) with
      | false => rfl
      | true => have := Nat.eq_of_beq_eq_true e; omega]
    have := enumC_S cs (n + 1) k
    rwa [show n + 1 + k = n + (k + 1) by omega] at this
theorem CRL_dead {S : FS} {pl : Nat → Option Pl} : ∀ {as : List Arg} {cs : List C} {vs : List Value}, cs.length = as.length → CRL S w pl cs vs → CRL S w pl (deadRo as cs) vs
  | [], [], _, _, h => h
  | [], _ :: _, _, hl, _ => by simp at hl
  | _ :: _, [], _, hl, _ => by simp at hl
  | a :: as, c :: cs, vs, hl, h => by
    simp only [CRL] at h
    obtain ⟨x, xs, h1, h2, h3⟩ := h
    have ih := CRL_dead (as := as) (by simpa using hl) h3
    cases a <;> simp only [deadRo, CRL]
    · exact ⟨x, xs, h1, by simp only [CR], ih⟩
    · exact ⟨x, xs, h1, h2, ih⟩
    · exact ⟨x, xs, h1, by simp only [CR], ih⟩
theorem okL_dead {u : Nat → Bool} : ∀ {as : List Arg} {cs : List C}, C.okL u cs → C.okL u (deadRo as cs)
  | [], cs, _ => by simp only [deadRo, C.okL]
  | a :: as, [], _ => by cases a <;> simp only [deadRo, C.okL]
  | a :: as, c :: cs, h => by
    simp only [C.okL] at h
    have ih := okL_dead (as := as) h.2
    cases a <;> simp only [deadRo, C.okL, C.ok, true_and]
    · exact ih
    · exact ⟨h.1, ih⟩
    · exact ih
theorem entryS_st {args : List Arg} {m : Nat} : Le (entry args m) (entryS args m).st := by
  have e : (entryS args m).st = { entry args m with args := deadRo args (matL (args.map Arg.tree) 0).1 } := by
    simp only [entryS, SL.st, entry, rlook_setKs, memN_addKs, addRows_set, addUsed_new]
    congr 1
    funext k
    have := enumC_S (matL (args.map Arg.tree) 0).1 0 k
    rwa [Nat.zero_add] at this
  rw [e]
  intro X a w h
  obtain ⟨ρ, Fp, k1, k2⟩ := h.mem
  refine ⟨⟨ρ, Fp, k1, k2.1, ?_, ?_⟩, h.nodef, h.size, h.below, h.keep, h.hsub, h.hk, h.hB⟩
  · exact CRL_dead (by rw [matL_length]; simp) k2.2.1
  · exact okL_dead k2.2.2
theorem evExits_S {fn : Func} {r : RH} (h : evExits P r s = some ps) (hp : allT ps) (hr : fn.results.toList = r.rs) : Exits P fn r.args r.outs r.res s.st := by
  unfold evExits at h
  split at h
  · rename_i cr h1
    split at h
    · rename_i p1 ts g h2
      split at h
      · rename_i qs h3
        simp only [Option.some.injEq] at h
        subst h
        rw [allT_append] at hp
        have := mapCloS_S (cloS_S (full := rlook s.rows) (fun _ _ => id) r.fuel) _ h2 hp.1
        rw [dels_nil, eqVL_S h3 hp.2] at this
        exact ⟨cr, r.fuel, _, by rw [hr]; exact h1, this⟩
      · cases h
    · cases h
  · cases h
theorem runRet_S {fn : Func} {r : RH} (h : runRet P n c K hs s r = some ps) (hp : allT ps) (hr : fn.results.toList = r.rs) (hq : ∀ e st, FinQ P fn r.args r.outs r.res e st → Q e st) : Now P Q K s.st c := by
  unfold runRet at h
  split at h
  · rename_i p1 e s1 hs1 h1
    split at h
    · rename_i qs s2 h2 he
      split at h
      · rename_i us h3
        simp only [Option.some.injEq] at h
        subst h
        simp only [allT_append] at hp
        refine evK_S n h1 hp.1 (hq _ _ ⟨?_, _, evGs_S h2 hp.2.1, evExits_S h3 hp.2.2 hr⟩)
        rw [Bool.or_eq_true] at he
        exact he.imp exEq_S exEq_S
      · cases h
    · cases h
  · cases h
theorem runAt_S {e : Exit} {t : TL} {l : List (Nat × Nat)} (h : runAt P n c K hs s e t l = some ps) (hp : allT ps) (hq : ∀ st, Le st t.sl.st → Q e st) : Now P Q K s.st c := by
  unfold runAt at h
  split at h
  · rename_i p1 e1 s1 hs1 h1
    split at h
    · rename_i qs s2 h2 he
      split at h
      · rename_i us h3
        simp only [Option.some.injEq] at h
        subst h
        simp only [allT_append] at hp
        refine evK_S n h1 hp.1 ?_
        have := hq s1.st ((evGs_S h2 hp.2.1).trans (evM_S h3 hp.2.2))
        rw [← exEq_S he] at this
        exact this
      · cases h
    · cases h
  · cases h
theorem cut_code {b : Code} {K1 : List Fr} {t : TL} (hq : TW P b t.sl.st (KQ P K1 Q)) : ∀ st, Le st t.sl.st → Now P Q K1 st (.code b) := fun st hl => TW.le hl hq
theorem runTo_S {b : Cur} {K1 : List Fr} {t : TL} {l : List (Nat × Nat)} (h : runTo P n c K hs s t l = some (ps, b, K1)) (hp : allT ps) (hq : ∀ st, Le st t.sl.st → Now P Q K1 st b) : Now P Q K s.st c := by
  unfold runTo at h
  split at h
  · rename_i p1 b' K' s1 hs1 h1
    split at h
    · rename_i qs s2 h2
      split at h
      · rename_i us h3
        simp only [Option.some.injEq, Prod.mk.injEq] at h
        obtain ⟨rfl, rfl, rfl⟩ := h
        simp only [allT_append] at hp
        exact evK_S n h1 hp.1 (hq _ ((evGs_S h2 hp.2.1).trans (evM_S h3 hp.2.2)))
      · cases h
    · cases h
  · cases h
/-- What comes to Q comes to Q', where Q' holds of something less. -/
theorem TW.mono_le {c : Code} (h : TW P c st Q) (hq : ∀ e st, Q e st → ∃ st', Le st st' ∧ Q' e st') : TW P c st Q' := fun X a w hr => wp_mono (h X a w hr) fun e a' w' ⟨st', k1, k2⟩ => by
  obtain ⟨st'', h1, h2⟩ := hq e st' k1
  exact ⟨st'', h2, h1 X a' w' k2⟩
/-- A function's contract. -/
theorem contract_run {f : FuncId} {fn : Func} {b : Code} {args : List Arg} {outs : List V} {res : V} (hf : P.funcs[f]? = some fn) (hb : fn.body = some b) (hen : enterable P f = true) (h : Now P (FinQ P fn args outs res) [] (entryS args fn.ntmps).st (.code b)) : CallOK P f args outs res := by
  refine ⟨hen, contract_TW hf hb ?_⟩
  refine TW.mono_le (TW.le entryS_st h) ?_
  rintro e st ⟨h1, st', h2, h3⟩
  exact ⟨st', h2, h1, h3⟩
/-- A loop whose rounds a pure function tells: step tells, with n rounds to come, what it comes to. -/
theorem loop_run {b : Code} {σ τ : Type} (I : σ → TL) (f : Nat → σ → Option τ) (J : τ → Exit → St → Prop)
    (round : ∀ n x r, f (n + 1) x = some r → TW P b (I x).sl.st (Round (fun m st => ∃ y, st = (I y).sl.st ∧ m = n ∧ f n y = some r) (n + 1) (J r))) (h0 : ∀ x, f 0 x = none) {n : Nat} {x : σ} {r : τ} (h : f n x = some r) : TW P (.loop b) (I x).sl.st (J r) := by
  refine TW.loop (fun m st => ∃ y, st = (I y).sl.st ∧ f m y = some r) n ⟨x, rfl, h⟩ ?_
  rintro m st ⟨y, rfl, hy⟩
  cases m with
  | zero => rw [h0] at hy; cases hy
  | succ m =>
    refine TW.mono (round m y r hy) ?_
    intro e st hst
    cases e with
    | normal =>
      obtain ⟨k, st', k1, k2, z, k3, k4, k5⟩ := hst
      subst k4
      exact ⟨k, st', k1, k2, z, k3, k5⟩
    | _ => exact hst
end
end Go.Eng
set_option linter.unusedVariables false
namespace Go.Eng
/-! Typed lists as cells. -/
/-- How a Lean value is laid in cells: so many. -/
structure Enc (α : Type) where
  E : Nat
  f : α → List V
  len : ∀ x, (f x).length = E
/-- None of its parts is told as read alone. -/
class NI {α : Type} (e : Enc α) : Prop where
  noim : ∀ x, noImL (e.f x) = true
def scOne : V → Bool
  | .sc v => v.oneCell'
  | _ => false
/-- All its cells are values without memory. -/
class SCE {α : Type} (e : Enc α) : Prop where
  sc : ∀ x, (e.f x).all scOne = true
abbrev vI (k : IntKind) (n : Int) : V := .sc (.int k n)
abbrev vB (b : Bool) : V := .sc (.bool b)
abbrev vT (s : ByteArray) : V := .sc (.string s)
def eI (k : IntKind) : Enc Int := ⟨1, fun n => [vI k n], fun _ => rfl⟩
def eB : Enc Bool := ⟨1, fun n => [vB n], fun _ => rfl⟩
def eT : Enc ByteArray := ⟨1, fun n => [vT n], fun _ => rfl⟩
instance {k : IntKind} : NI (eI k) := ⟨fun _ => rfl⟩
instance : NI eB := ⟨fun _ => rfl⟩
instance : NI eT := ⟨fun _ => rfl⟩
instance {k : IntKind} : SCE (eI k) := ⟨fun _ => rfl⟩
instance : SCE eB := ⟨fun _ => rfl⟩
instance : SCE eT := ⟨fun _ => rfl⟩
def cs {α : Type} (e : Enc α) (l : List α) : List V := l.flatMap e.f
abbrev vS {α : Type} (e : Enc α) (l : List α) : V := .sl e.E l.length (cs e l)
abbrev own (ts : List V) : List C := ts.map C.own
/-- A pointer that may be nil. -/
def ptrO {α : Type} (f : α → List V) : Option α → V
  | none => .sc (.pointer none)
  | some x => .bx (f x)
section
variable {α : Type} {e : Enc α} {xs ys : List α}
theorem cs_nil : cs e [] = [] := rfl
theorem cs_cons {x : α} : cs e (x :: xs) = e.f x ++ cs e xs := by simp [cs]
theorem cs_append : cs e (xs ++ ys) = cs e xs ++ cs e ys := by simp [cs]
theorem cs_one {x : α} : cs e [x] = e.f x := by simp [cs]
theorem cs_length : (cs e xs).length = xs.length * e.E := by
  induction xs with
  | nil => simp [cs]
  | cons x xs ih => rw [cs_cons, List.length_append, ih, e.len, List.length_cons, Nat.add_mul, Nat.one_mul, Nat.add_comm]
theorem noImL_app {as bs : List V} : noImL (as ++ bs) = (noImL as && noImL bs) := by
  induction as with
  | nil => simp [noImL]
  | cons t as ih => simp [noImL, ih, Bool.and_assoc]
theorem noImL_cs [NI e] : noImL (cs e xs) = true := by
  induction xs with
  | nil => simp [cs, noImL]
  | cons x xs ih => rw [cs_cons, noImL_app, ih, NI.noim]; rfl
def eS {α : Type} (e : Enc α) : Enc (List α) := ⟨1, fun l => [vS e l], fun _ => rfl⟩
instance [NI e] : NI (eS e) := ⟨fun l => by simp [eS, noImL, noIm, noImL_cs]⟩
theorem cs_drop {j : Nat} : (cs e xs).drop (j * e.E) = cs e (xs.drop j) := by
  induction j generalizing xs with
  | zero => simp
  | succ j ih =>
    cases xs with
    | nil => simp [cs]
    | cons x xs =>
      rw [cs_cons, List.drop_succ_cons, Nat.add_mul, Nat.one_mul, Nat.add_comm, ← List.drop_drop, ← ih]
      congr 1
      rw [← e.len x]
      simp
theorem cs_take {j : Nat} : (cs e xs).take (j * e.E) = cs e (xs.take j) := by
  induction j generalizing xs with
  | zero => simp [cs]
  | succ j ih =>
    cases xs with
    | nil => simp [cs]
    | cons x xs =>
      rw [cs_cons, List.take_succ_cons, cs_cons, Nat.add_mul, Nat.one_mul, Nat.add_comm, ← e.len x, List.take_length_add_append, e.len, ih]
/-- From the j-th element on. -/
theorem cs_from {j : Nat} {d : α} (h : j < xs.length) : (cs e xs).drop (j * e.E) = e.f (xs.getD j d) ++ cs e (xs.drop (j + 1)) := by
  rw [cs_drop, List.drop_eq_getElem_cons h, cs_cons]
  simp [List.getD_eq_getElem?_getD, List.getElem?_eq_getElem h]
theorem cs_ne {j : Nat} (h : j < xs.length) (hE : e.E ≠ 0) : cs e xs ≠ [] := by
  intro hn
  have := congrArg List.length hn
  rw [cs_length] at this
  simp only [List.length_nil] at this
  rcases Nat.mul_eq_zero.1 this with h1 | h1
  · omega
  · exact hE h1
theorem cs_get {j k : Nat} {d : α} (h : j < xs.length) (hk : k < e.E) : (cs e xs)[j * e.E + k]? = (e.f (xs.getD j d))[k]? := by
  rw [← List.getElem?_drop, cs_from (d := d) h, List.getElem?_append_left (by rw [e.len]; exact hk)]
theorem cs_split {j : Nat} (h : j < xs.length) (d : α) : xs = xs.take j ++ (xs.getD j d) :: xs.drop (j + 1) := by
  have h1 := List.take_append_drop j xs
  rw [List.drop_eq_getElem_cons h] at h1
  simp [List.getD_eq_getElem?_getD, List.getElem?_eq_getElem h]
theorem cs_set {j : Nat} {y : α} (h : j < xs.length) (d : α) : cs e (xs.set j y) = (cs e xs).take (j * e.E) ++ e.f y ++ (cs e xs).drop ((j + 1) * e.E) := by
  rw [List.set_eq_take_append_cons_drop, if_pos h, cs_append, cs_cons, cs_take, cs_drop, List.append_assoc]
theorem setRange_mid : ∀ (new as bs ds : List C), bs.length = new.length → setRange (as ++ bs ++ ds) as.length new = as ++ new ++ ds
  | [], as, bs, ds, h => by
    simp only [List.length_nil, List.length_eq_zero_iff] at h
    subst h
    rfl
  | c :: new, as, [], ds, h => by simp at h
  | c :: new, as, b :: bs, ds, h => by
    simp only [setRange]
    have := setRange_mid new (as ++ [c]) bs ds (by simpa using h)
    simp only [List.length_append, List.length_cons, List.length_nil, List.append_assoc, List.cons_append, List.nil_append] at this ⊢
    rw [← this]
    congr 1
    simp
theorem setRange_eq (new cs : List C) (off : Nat) (h : off + new.length ≤ cs.length) : setRange cs off new = cs.take off ++ new ++ cs.drop (off + new.length) := by
  have e1 : cs = cs.take off ++ (cs.drop off).take new.length ++ cs.drop (off + new.length) := by
    rw [List.append_assoc, ← List.drop_drop, List.take_append_drop, List.take_append_drop]
  have := setRange_mid new (cs.take off) ((cs.drop off).take new.length) (cs.drop (off + new.length)) (by simp; omega)
  rw [← e1, List.length_take, Nat.min_eq_left (by omega)] at this
  exact this
theorem own_append {as bs : List V} : own as ++ own bs = own (as ++ bs) := by simp [own]
theorem own_length {ts : List V} : (own ts).length = ts.length := List.length_map ..
theorem own_cs_set {j : Nat} {y : α} {new : List C} (h : j < xs.length) (hn : new = own (e.f y)) : setRange (own (cs e xs)) (j * e.E) new = own (cs e (xs.set j y)) := by
  subst hn
  have hl : (own (cs e xs)).length = xs.length * e.E := by rw [List.length_map, cs_length]
  have h2 : (j + 1) * e.E ≤ xs.length * e.E := Nat.mul_le_mul_right _ h
  have h3 : (j + 1) * e.E = j * e.E + e.E := by rw [Nat.add_mul, Nat.one_mul]
  rw [setRange_eq _ _ _ (by rw [hl, List.length_map, e.len]; omega), cs_set h y, ← own_append, ← own_append]
  simp only [own, List.map_take, List.map_drop, List.length_map, e.len, h3]
theorem own_cs_set1 {j k : Nat} {x y : α} {t : V} (h : j < xs.length) (hx : xs.getD j x = x) (hy : e.f y = (e.f x).set k t) (hk : k < e.E) : setRange (own (cs e xs)) (j * e.E + k) [C.own t] = own (cs e (xs.set j y)) := by
  have h2 : (j + 1) * e.E ≤ xs.length * e.E := Nat.mul_le_mul_right _ h
  have h3 : (j + 1) * e.E = j * e.E + e.E := by rw [Nat.add_mul, Nat.one_mul]
  simp only [setRange]
  rw [own, ← List.map_set]
  congr 1
  have e1 := cs_split h x
  rw [hx] at e1
  have h4 : (cs e (xs.take j)).length = j * e.E := by rw [cs_length, List.length_take]; congr 1; omega
  conv => lhs; rw [e1]
  rw [cs_append, cs_cons, List.set_append_right _ _ (by omega), h4, show j * e.E + k - j * e.E = k by omega, List.set_append_left _ _ (by rw [e.len]; exact hk), ← hy, List.set_eq_take_append_cons_drop, if_pos h, cs_append, cs_cons]
theorem take_all {as : List V} {n : Nat} (h : n = as.length) : (as.drop 0).take n = as := by subst h; simp
theorem readC_own {as : List V} {i : Nat} {x : Value} (h : as[i]? = some (.sc x)) : ((own as)[i]?).bind readC = some (.v (.sc x)) := by
  simp [own, h, readC]
theorem repl_cs {n : Nat} {x : α} {zs : List Value} (h : (zs.map fun z => C.own (.sc z)) = own (e.f x)) : (List.replicate n (zs.map fun z => C.own (.sc z))).flatten = own (cs e (List.replicate n x)) := by
  induction n with
  | zero => rfl
  | succ n ih => rw [List.replicate_succ, List.flatten_cons, ih, List.replicate_succ, cs_cons, h, own_append]
end
/-- An index within. -/
def idx (i : Int) (n : Nat) : Option Nat := if 0 ≤ i ∧ i < n then some i.toNat else none
theorem idx_S {i : Int} {n j : Nat} (h : idx i n = some j) : i = (j : Int) ∧ j < n := by
  unfold idx at h
  split at h
  · simp only [Option.some.injEq] at h; omega
  · cases h
/-- Is it so? -/
def chk (p : Prop) [Decidable p] : Option Unit := if p then some () else none
theorem chk_S {p : Prop} [Decidable p] {u : Unit} (h : chk p = some u) : p := by
  unfold chk at h
  split at h
  · assumption
  · cases h
def w64 (n : Int) : Int := IntKind.i64.wrap n
def bod (f : Func) : Code := f.body.getD .skip
/-- The piece of code at a place, and what comes behind it. -/
def subC : List Nat → Code → List Fr → Code × List Fr
  | [], c, K => (c, K)
  | 0 :: p, .seq x y, K => subC p x (.seq y :: K)
  | _ :: p, .seq x y, K => subC p y K
  | 0 :: p, .cond _ x y, K => subC p x K
  | _ :: p, .cond _ x y, K => subC p y K
  | _ :: p, .block id c, K => subC p c (.blk id :: K)
  | _ :: p, .loop c, K => subC p c []
  | _, c, K => (c, K)
section
variable {α : Type} {e : Enc α} {xs ys : List α} {j k : Nat} {d y : α}
theorem cs_room (h : j < xs.length) : j * e.E + e.E ≤ (own (cs e xs)).length := by
  rw [own_length, cs_length]
  have := Nat.mul_le_mul_right e.E (Nat.succ_le_of_lt h)
  rwa [Nat.succ_mul] at this
theorem own_room (h : j < xs.length) : 0 + j * e.E + e.E ≤ (own (cs e xs)).length := by rw [Nat.zero_add]; exact cs_room h
theorem own_room1 (h : j < xs.length) (hk : k < e.E) : 0 + j * e.E + k + 1 ≤ (own (cs e xs)).length := by have := cs_room (e := e) h; omega
theorem own_get {t : V} (h : j < xs.length) (hk : k < e.E) (hx : (e.f (xs.getD j d))[k]? = some t) : (own (cs e xs))[0 + j * e.E + k]? = some (C.own t) := by
  rw [Nat.zero_add, own, List.getElem?_map, cs_get (d := d) h hk, hx]
  rfl
theorem readC_at {x : Value} (h : j < xs.length) (hk : k < e.E) (hx : (e.f (xs.getD j d))[k]? = some (.sc x)) : ((own (cs e xs))[0 + j * e.E + k]?).bind readC = some (.v (.sc x)) := by
  rw [own_get (d := d) h hk hx]
  rfl
theorem own_set {new : List C} (h : j < xs.length) (hn : new = own (e.f y)) : setRange (own (cs e xs)) (0 + j * e.E) new = own (cs e (xs.set j y)) := by rw [Nat.zero_add]; exact own_cs_set h hn
theorem own_set1 {t : V} (h : j < xs.length) (hy : e.f y = (e.f (xs.getD j d)).set k t) (hk : k < e.E) : setRange (own (cs e xs)) (0 + j * e.E + k) [C.own t] = own (cs e (xs.set j y)) := by
  rw [Nat.zero_add]
  exact own_cs_set1 h (by simp [List.getD_eq_getElem?_getD, List.getElem?_eq_getElem h]) hy hk
theorem readL_from (h : j < xs.length) : readL (((own (cs e xs)).drop (0 + j * e.E)).take e.E) = readL (own (e.f (xs.getD j d))) := by
  congr 1
  rw [Nat.zero_add, own, ← List.map_drop, cs_from (d := d) h, ← List.map_take, List.take_append_of_le_length (by rw [e.len]; exact Nat.le_refl _), List.take_of_length_le (by rw [e.len]; exact Nat.le_refl _)]
theorem len_all {n : Nat} (h : n = xs.length) : 0 + n * e.E ≤ (cs e xs).length := by rw [cs_length, h]; omega
theorem take_cs {n : Nat} (h : n = xs.length) : ((cs e xs).drop 0).take (n * e.E) = cs e xs := take_all (by rw [cs_length, h])
theorem own_len {n : Nat} (h : n = xs.length) : 0 + n * e.E ≤ (own (cs e xs)).length := by rw [own_length]; exact len_all h
theorem own_app {n : Nat} {cells : List C} (h : n = xs.length) (hc : cells = own (cs e ys)) : ((own (cs e xs)).drop 0).take (n * e.E) ++ cells = own (cs e (xs ++ ys)) := by
  subst h hc
  rw [cs_append, ← own_append]
  congr 1
  rw [List.drop_zero]
  exact List.take_of_length_le (by rw [own_length, cs_length]; exact Nat.le_refl _)
theorem len_of {n : Nat} (h : j < n) (hn : n = xs.length) : j < xs.length := hn ▸ h
theorem app_ln {n m : Nat} (h : n = xs.length) (k : m = ys.length) : n + m = (xs ++ ys).length := by subst h k; simp
theorem len_back (l : List C) : l.length ≤ 0 + (l.length - 0) := by omega
theorem back_all (l : List C) (ts : List V) : l.take 0 ++ ts.map C.own ++ l.drop (0 + (l.length - 0)) = own ts := by simp
/-! Parts. -/
variable {l u n : Nat}
theorem cs_sub (h1 : l ≤ u) (h2 : u ≤ xs.length) : ((cs e xs).drop (l * e.E)).take ((u - l) * e.E) = cs e ((xs.drop l).take (u - l)) := by rw [cs_drop, cs_take]
theorem cs_sub_lo : ((cs e xs).drop (l * e.E)).take ((xs.length - l) * e.E) = cs e (xs.drop l) := by
  rw [cs_drop, cs_take, List.take_of_length_le (by simp)]
theorem cs_sub_hi : ((cs e xs).drop (0 * e.E)).take ((u - 0) * e.E) = cs e (xs.take u) := by
  rw [Nat.zero_mul, List.drop_zero, Nat.sub_zero, cs_take]
theorem own_sub (hn : n = xs.length) (h1 : l ≤ u) (h2 : u ≤ n) : ((own (cs e xs)).drop (0 + l * e.E)).take ((u - l) * e.E) = own (cs e ((xs.drop l).take (u - l))) := by
  rw [Nat.zero_add, ← cs_sub (e := e) h1 (hn ▸ h2), own, ← List.map_drop, ← List.map_take]
theorem own_sub_lo (hn : n = xs.length) (h1 : l ≤ n) (h2 : n ≤ n) : ((own (cs e xs)).drop (0 + l * e.E)).take ((n - l) * e.E) = own (cs e (xs.drop l)) := by
  subst hn
  rw [Nat.zero_add, ← cs_sub_lo (e := e), own, ← List.map_drop, ← List.map_take]
theorem own_sub_hi (hn : n = xs.length) (h1 : 0 ≤ u) (h2 : u ≤ n) : ((own (cs e xs)).drop (0 + 0 * e.E)).take ((u - 0) * e.E) = own (cs e (xs.take u)) := by
  rw [Nat.zero_add, ← cs_sub_hi (e := e), own, ← List.map_drop, ← List.map_take]
theorem sub_len (hn : n = xs.length) (h1 : l ≤ u) (h2 : u ≤ n) : 0 + l * e.E + (u - l) * e.E ≤ (cs e xs).length := by
  rw [cs_length, Nat.zero_add, ← Nat.add_mul, show l + (u - l) = u by omega]
  exact Nat.mul_le_mul_right _ (hn ▸ h2)
theorem sub_take (hn : n = xs.length) (h1 : l ≤ u) (h2 : u ≤ n) : ((cs e xs).drop (0 + l * e.E)).take ((u - l) * e.E) = cs e ((xs.drop l).take (u - l)) := by rw [Nat.zero_add]; exact cs_sub h1 (hn ▸ h2)
theorem sub_take_lo (hn : n = xs.length) (h1 : l ≤ n) (h2 : n ≤ n) : ((cs e xs).drop (0 + l * e.E)).take ((n - l) * e.E) = cs e (xs.drop l) := by subst hn; rw [Nat.zero_add]; exact cs_sub_lo
theorem sub_take_hi (hn : n = xs.length) (h1 : 0 ≤ u) (h2 : u ≤ n) : ((cs e xs).drop (0 + 0 * e.E)).take ((u - 0) * e.E) = cs e (xs.take u) := by rw [Nat.zero_add]; exact cs_sub_hi
theorem sub_ln (hn : n = xs.length) (h1 : l ≤ u) (h2 : u ≤ n) : u - l = ((xs.drop l).take (u - l)).length := by simp; omega
theorem sub_ln_lo (hn : n = xs.length) (h1 : l ≤ n) (h2 : n ≤ n) : n - l = (xs.drop l).length := by simp [hn]
theorem sub_ln_hi (hn : n = xs.length) (h1 : 0 ≤ u) (h2 : u ≤ n) : u - 0 = (xs.take u).length := by simp; omega
/-! What has no memory in it. -/
theorem all_cs [SCE e] : (cs e xs).all scOne = true := by
  induction xs with
  | nil => rfl
  | cons x xs ih => rw [cs_cons, List.all_append, ih, SCE.sc]; rfl
theorem readL_sc : ∀ {ts : List V}, ts.all scOne = true → readL (own ts) = some (ts.map C.v)
  | [], _ => rfl
  | t :: ts, h => by
    simp only [List.all_cons, Bool.and_eq_true] at h
    have ih := readL_sc h.2
    cases t with
    | sc v => simp only [own, List.map_cons, readL, readC] at ih ⊢; rw [ih]
    | _ => simp [scOne] at h
theorem readL_cs [SCE e] {n off : Nat} {zs : List α} (h : ((cs e xs).drop off).take (n * e.E) = cs e zs) : readL (((own (cs e xs)).drop off).take (n * e.E)) = some ((cs e zs).map C.v) := by
  rw [own, ← List.map_drop, ← List.map_take, h]
  exact readL_sc all_cs
theorem all_one [SCE e] : ((cs e xs).map C.v).all oneC = true := by
  have := all_cs (e := e) (xs := xs)
  generalize cs e xs = ts at this
  induction ts with
  | nil => rfl
  | cons t ts ih =>
    simp only [List.all_cons, Bool.and_eq_true, List.map_cons] at this ⊢
    refine ⟨?_, ih this.2⟩
    cases t with
    | sc v => exact this.1
    | _ => simp [scOne] at this
theorem toCell_sc : ∀ {ts : List V}, ts.all scOne = true → (ts.map C.v).map toCell = own ts
  | [], _ => rfl
  | t :: ts, h => by
    simp only [List.all_cons, Bool.and_eq_true] at h
    have ih := toCell_sc h.2
    cases t with
    | sc v => simp only [own, List.map_cons, toCell] at ih ⊢; rw [ih]
    | _ => simp [scOne] at h
theorem toCell_cs [SCE e] : ((cs e xs).map C.v).map toCell = own (cs e xs) := toCell_sc all_cs
/-- copy: what of ys there is room for comes over the front of xs. -/
def copyL {α : Type} (xs ys : List α) : List α := ys.take xs.length ++ xs.drop ys.length
theorem copyL_len (xs ys : List α) : (copyL xs ys).length = xs.length := by simp [copyL]; omega
theorem copy_cs [SCE e] {n m : Nat} (hn : n = xs.length) (hm : m = ys.length) : setRange (own (cs e xs)) 0 ((((cs e ys).map C.v).take (Nat.min m n * e.E)).map toCell) = own (cs e (copyL xs ys)) := by
  subst hn hm
  have h1 : (((cs e ys).map C.v).take (Nat.min ys.length xs.length * e.E)).map toCell = own (cs e (ys.take xs.length)) := by
    rw [← List.map_take, cs_take, toCell_cs]
    congr 2
    by_cases hc : ys.length ≤ xs.length
    · rw [show Nat.min ys.length xs.length = ys.length from Nat.min_eq_left hc, List.take_of_length_le (Nat.le_refl _), List.take_of_length_le hc]
    · rw [show Nat.min ys.length xs.length = xs.length from Nat.min_eq_right (by omega)]
  have hl : (own (cs e (ys.take xs.length))).length = min xs.length ys.length * e.E := by rw [own_length, cs_length, List.length_take]
  rw [h1, setRange_eq _ _ _ (by rw [hl, own_length, cs_length, Nat.zero_add]; exact Nat.mul_le_mul_right _ (Nat.min_le_left _ _)), hl, List.take_zero, List.nil_append, Nat.zero_add]
  rw [copyL, cs_append, ← own_append]
  congr 1
  rw [own, ← List.map_drop, cs_drop]
  congr 2
  simp only [Nat.min_def]
  split
  · rw [List.drop_eq_nil_of_le (by omega), List.drop_eq_nil_of_le (by omega)]
  · rfl
end
/-- All its cells fit into one place each. -/
class OneE {α : Type} (e : Enc α) : Prop where
  one : ∀ x, (e.f x).all oneV = true
instance {k : IntKind} : OneE (eI k) := ⟨fun _ => rfl⟩
instance : OneE eB := ⟨fun _ => rfl⟩
instance : OneE eT := ⟨fun _ => rfl⟩
instance {α : Type} {e : Enc α} : OneE (eS e) := ⟨fun _ => rfl⟩
theorem all_oneV {α : Type} {e : Enc α} [OneE e] {xs : List α} : (cs e xs).all oneV = true := by
  induction xs with
  | nil => rfl
  | cons x xs ih => rw [cs_cons, List.all_append, ih, OneE.one]; rfl
theorem nil_repl {α : Type} {e : Enc α} {x : α} {cz : List C} {n : Nat} (h : NilRel cz (own (e.f x))) : NilRel (List.replicate n cz).flatten (own (cs e (List.replicate n x))) := by
  have app : ∀ {a b c d : List C}, NilRel a b → NilRel c d → NilRel (a ++ c) (b ++ d) := by
    intro a
    induction a with
    | nil => intro b c d h1 h2; cases b with
      | nil => exact h2
      | cons => simp [NilRel] at h1
    | cons x a ih => intro b c d h1 h2; cases b with
      | nil => simp [NilRel] at h1
      | cons y b => exact ⟨h1.1, ih h1.2 h2⟩
  induction n with
  | zero => trivial
  | succ n ih =>
    simp only [List.replicate_succ, List.flatten_cons, cs_cons]
    rw [← own_append]
    exact app h ih
section
variable {α : Type} {e : Enc α} {xs : List α} {j k : Nat} {d x y : α}
theorem getD_set (h : j < (xs.set j x).length) : (xs.set j x).getD j d = x := by
  rw [List.length_set] at h
  simp [List.getD_eq_getElem?_getD, h]
theorem own_gets {t : V} (h : j < (xs.set j x).length) (hk : k < e.E) (hx : (e.f x)[k]? = some t) : (own (cs e (xs.set j x)))[0 + j * e.E + k]? = some (C.own t) := own_get (d := x) h hk (by rw [getD_set h]; exact hx)
theorem readC_ats {v : Value} (h : j < (xs.set j x).length) (hk : k < e.E) (hx : (e.f x)[k]? = some (.sc v)) : ((own (cs e (xs.set j x)))[0 + j * e.E + k]?).bind readC = some (.v (.sc v)) := readC_at (d := x) h hk (by rw [getD_set h]; exact hx)
theorem readL_froms (h : j < (xs.set j x).length) : readL (((own (cs e (xs.set j x))).drop (0 + j * e.E)).take e.E) = readL (own (e.f x)) := by rw [readL_from (d := x) h, getD_set h]
theorem own_sets {new : List C} (h : j < (xs.set j x).length) (hn : new = own (e.f y)) : setRange (own (cs e (xs.set j x))) (0 + j * e.E) new = own (cs e (xs.set j y)) := by
  have := own_set (y := y) h hn
  rwa [List.set_set] at this
theorem own_set1s {t : V} (h : j < (xs.set j x).length) (hy : e.f y = (e.f x).set k t) (hk : k < e.E) : setRange (own (cs e (xs.set j x))) (0 + j * e.E + k) [C.own t] = own (cs e (xs.set j y)) := by
  have := own_set1 (d := x) (y := y) (t := t) h (by rw [getD_set h]; exact hy) hk
  rwa [List.set_set] at this
theorem set_ln2 : (xs.set j x).length = (xs.set j y).length := by simp
end
theorem set_ln {α : Type} {xs : List α} {j : Nat} {y : α} : xs.length = (xs.set j y).length := (List.length_set ..).symm
theorem set_over {l : List C} {o : Nat} {c d : C} : setRange (l.set o c) o [d] = setRange l o [d] := by simp [setRange]
theorem set_get {l : List C} {o : Nat} {c : C} (h : o + 1 ≤ l.length) : (l.set o c)[o]? = some c := List.getElem?_set_self (by omega)
theorem set_same {l : List C} {o : Nat} {c : C} (h : l[o]? = some c) : l.set o c = l := by
  rw [List.ext_getElem?_iff]
  intro i
  by_cases hi : i = o
  · subst hi
    have := (List.getElem?_eq_some_iff.1 h).1
    rw [List.getElem?_set_self this, h]
  · rw [List.getElem?_set_ne (Ne.symm hi)]
def toN (l : Int) : Option Nat := if 0 ≤ l then some l.toNat else none
theorem toN_S {l : Int} {n : Nat} (h : toN l = some n) : l = (n : Int) := by
  unfold toN at h
  split at h
  · simp only [Option.some.injEq] at h; omega
  · cases h
theorem cond_cases {τ : Type} {e : Bool} {A B : Option τ} {r : τ} (h : cond e A B = some r) : (e = true ∧ A = some r) ∨ (e = false ∧ B = some r) := by
  cases e
  · exact .inr ⟨rfl, h⟩
  · exact .inl ⟨rfl, h⟩
theorem bind_cases {σ τ : Type} {o : Option σ} {f : σ → Option τ} {r : τ} (h : o.bind f = some r) : ∃ x, o = some x ∧ f x = some r := Option.bind_eq_some_iff.1 h
theorem opt_n {σ τ : Type} {a : Option τ} {f : σ → Option τ} {r : τ} (h : Option.elim none a f = some r) : a = some r := h
theorem opt_s {σ τ : Type} {a : Option τ} {f : σ → Option τ} {x : σ} {r : τ} (h : Option.elim (some x) a f = some r) : f x = some r := h
theorem sum_l {σ τ υ : Type} {f : σ → Option υ} {g : τ → Option υ} {x : σ} {r : υ} (h : Sum.elim f g (.inl x) = some r) : f x = some r := h
theorem sum_r {σ τ υ : Type} {f : σ → Option υ} {g : τ → Option υ} {x : τ} {r : υ} (h : Sum.elim f g (.inr x) = some r) : g x = some r := h
def bitAnd (k : IntKind) (x y : Int) : Int := k.wrap (BitVec.ofInt k.bits x &&& BitVec.ofInt k.bits y).toNat
def bitOr (k : IntKind) (x y : Int) : Int := k.wrap (BitVec.ofInt k.bits x ||| BitVec.ofInt k.bits y).toNat
def bitXor (k : IntKind) (x y : Int) : Int := k.wrap (BitVec.ofInt k.bits x ^^^ BitVec.ofInt k.bits y).toNat
def sEq (x y : ByteArray) : Bool := x.toList == y.toList
def sLt (x y : ByteArray) : Bool := Op.bytesLess x.toList y.toList
end Go.Eng
set_option linter.unusedVariables false
namespace Go.Eng
open Go.RowKit (Below)
/-! slices.Clone: a slice asked for nil, whose answer nobody knows. -/
section
variable {P : Program} {X : Ctx} {o : Oper} {st st1 sa sb : St} {a : Act} {w w' : World} {Q : Exit → St → Prop}
theorem run_eqSlNil {t e : TypeId} {ad : Option Addr} {l c : Nat} (ht : P.underlying t = some (.slice e)) : (Op.equal t (.slice ad l c) (.slice none 0 0)).run P w = .ok ad.isNone w := by
  unfold Op.equal Op.maxDepth Op.equalIn
  cases ad with
  | none => simp only [Sem.run_bind, run_underlying ht, Result.andThen_ok, Sem.run_pure, Option.isNone_none]
  | some ad => simp only [Sem.run_bind, run_underlying ht, Result.andThen_ok, Sem.run_pure, Option.isNone_some]
theorem goes_nilSl (h : R X st a w) {t e t' : TypeId} {x : Operand} {E n : Nat} {cs : List V} (ho : o.op = .binOp .eql t x (.const (.slice none 0 0)) t') (ht : P.underlying t = some (.slice e)) (hx : st.ev x = some (.v (.sl E n cs))) (hd : st.fits o.dst) : ∃ b, (b = true → cs = []) ∧ Goes P X o a w (st.put o.dst (.v (.sc (.bool b)))) := by
  obtain ⟨ρ, Fp, m1, m2⟩ := h.mem
  have e0 := (ev_eval m2 hx).1
  simp only [CR, VI] at e0
  obtain ⟨ad, cap, e1, _, e2⟩ := e0
  refine ⟨ad.isNone, fun hb => ?_, goes_scalar h ?_ hd⟩
  · rcases e2 with e2 | ⟨b, o, e2, _⟩
    · exact e2
    · rw [e2] at hb
      cases hb
  unfold execOp
  have hg : (eqGuard .eql t x (.const (.slice none 0 0)) (.slice ad n cap) (.slice none 0 0)).run P w = .ok () w := rfl
  have ec : a.eval (.const (.slice none 0 0)) = .slice none 0 0 := rfl
  simp only [ho, e1, ec, hg, binOp, Sem.run_bind, run_eqSlNil ht, Result.andThen_ok, Sem.run_pure]
/-- A region of two operations, the second of which has one of some answers. -/
theorem TW.fork2 {id : Nat} {o1 o2 : Oper} {B : Bool → Prop} {sb : Bool → St} (g1 : o1.guard = none) (g2 : o2.guard = none) (h1 : Step P o1 st st1) (h2 : ∀ X a w, R X st1 a w → ∃ b, B b ∧ Goes P X o2 a w (sb b)) (qb : ∀ b, B b → Q .normal (sb b)) : TW P (.region id #[o1, o2] false) st Q := by
  intro X a w h
  refine wp_region ?_
  have hl : List.range (#[o1, o2] : Array Oper).size = [0, 1] := rfl
  rw [hl, wpOps_cons]
  simp only [wpOp]
  rw [show (#[o1, o2] : Array Oper)[0]? = some o1 from rfl]
  simp only
  rw [if_pos (by unfold Region.wanted; rw [g1])]
  refine .inl (Oper.wp_mono (fun a' w' hr => ?_) (h1 X a w h _))
  rw [wpOps_cons]
  simp only [wpOp]
  rw [show (#[o1, o2] : Array Oper)[1]? = some o2 from rfl]
  simp only
  rw [if_pos (by unfold Region.wanted; rw [g2])]
  obtain ⟨b, hb, hg⟩ := h2 X a' w' hr
  exact .inl (Oper.wp_mono (fun a2 w2 hr2 => ⟨sb b, qb b hb, hr2⟩) (hg _))
end
abbrev eJ : Enc Int := eI .i64
abbrev hA : Hint := .h .auto
theorem vbB {b c : Bool} (h : b = c) : C.v (vB b) = C.v (vB c) := congrArg (fun b => C.v (vB b)) h
end Go.Eng
set_option linter.unusedVariables false
namespace Go.Eng
open Go.RowKit (Below)
/-! What comes in, as data, is read as values: the way from a row to a contract. -/
def lowS (W : World) : FS := fun b _ => b < W.heap.size
def isI (k : IntKind) (n : Int) : Prop := (Lit.int k n).wf = true
def isB (_ : Bool) : Prop := True
def isT (s : ByteArray) : Prop := s.size ≤ reachBytes
/-- Its cells are so many; and what data are read of so many cells is a value. -/
def Rds (P : Program) (W : World) (t : TypeId) {α : Type} (e : Enc α) (ok : α → Prop) : Prop :=
  P.cellsOf t = e.E ∧ ∀ (H : Type) (enc : TypeId × Value → H) (fuel : Nat) (vs : List Value) (x : DataW H × List MemPlace), DataW.trod enc P W 0 (fun _ => true) true fuel t vs = some x → (x.1.weights P t).all (· ≤ reachBytes) = true → ∃ y : α, LI (lowS W) W (e.f y) vs ∧ ok y
def isL {α : Type} (n : Nat) (ok : α → Prop) (l : List α) : Prop := l.length * n ≤ reachBytes ∧ ∀ y ∈ l, ok y
section
variable {P : Program} {W : World} {t : TypeId} {α β : Type} {e : Enc α} {ok : α → Prop} {S : FS}
theorem LI_app : ∀ {as bs : List V} {vs : List Value}, LI S W as (vs.take as.length) → LI S W bs (vs.drop as.length) → LI S W (as ++ bs) vs
  | [], bs, vs, _, h => by simpa using h
  | a :: as, bs, vs, h, k => by
    cases vs with
    | nil =>
      simp only [List.take_nil, LI] at h
      obtain ⟨x, xs, h1, _⟩ := h
      cases h1
    | cons v vs =>
      simp only [List.length_cons, List.take_succ_cons, LI] at h
      obtain ⟨x, xs, h1, h2, h3⟩ := h
      cases h1
      simp only [List.length_cons, List.drop_succ_cons] at k
      simp only [List.cons_append, LI]
      exact ⟨v, vs, rfl, h2, LI_app h3 k⟩
theorem CI_app : ∀ {as bs : List V} {b o : Nat}, CI S W as b o → CI S W bs b (o + as.length) → CI S W (as ++ bs) b o
  | [], bs, b, o, _, h => by simpa using h
  | a :: as, bs, b, o, h, k => by
    simp only [CI] at h
    simp only [List.cons_append, CI]
    exact ⟨h.1, CI_app h.2 (by simpa [Nat.add_assoc, Nat.add_comm 1] using k)⟩
theorem cell_low {a : Addr} {v : Value} (h : W.cell? a = some v) : a.block < W.heap.size := by
  unfold World.cell? at h
  split at h
  · rename_i c t m g
    exact (Array.getElem?_eq_some_iff.1 g).1
  · cases h
theorem CI_cells : ∀ {ts : List V} {vs : List Value} {b o : Nat}, LI (lowS W) W ts vs → (∀ i, i < ts.length → W.cell? ⟨b, o + i, none⟩ = vs[i]?) → CI (lowS W) W ts b o
  | [], _, _, _, _, _ => by simp only [CI]
  | t :: ts, vs, b, o, h, k => by
    simp only [LI] at h
    obtain ⟨x, xs, rfl, h1, h2⟩ := h
    simp only [CI]
    have h0 : W.cell? ⟨b, o, none⟩ = some x := by simpa using k 0 (by simp)
    exact ⟨⟨cell_low h0, x, h0, h1⟩, CI_cells h2 fun i hi => by have := k (i + 1) (by simpa using hi); simpa [Nat.add_assoc, Nat.add_comm 1] using this⟩
theorem rds_int {k : IntKind} (ht : P.underlying t = some (.int k)) (hc : P.cellsOf t = 1) : Rds P W t (eI k) (isI k) := ⟨hc, fun H enc fuel vs x h _ => by
  obtain ⟨n, rfl, rfl, hw⟩ := DataW.trod_int ht h
  exact ⟨n, by simp only [eI, vI, LI, VI]; exact ⟨_, _, rfl, rfl, rfl⟩, hw⟩⟩
theorem rds_bool (ht : P.underlying t = some .bool) (hc : P.cellsOf t = 1) : Rds P W t eB isB := ⟨hc, fun H enc fuel vs x h _ => by
  obtain ⟨n, rfl, rfl⟩ := DataW.trod_bool ht h
  exact ⟨n, by simp only [eB, vB, LI, VI]; exact ⟨_, _, rfl, rfl, rfl⟩, trivial⟩⟩
theorem rds_string (ht : P.underlying t = some .string) (hc : P.cellsOf t = 1) : Rds P W t eT isT := ⟨hc, fun H enc fuel vs x h hs => by
  obtain ⟨n, rfl, rfl, hw⟩ := DataW.trod_string ht h
  refine ⟨n, by simp only [eT, vT, LI, VI]; exact ⟨_, _, rfl, rfl, rfl⟩, ?_⟩
  simp only [DataW.weights, List.all_cons, List.all_nil, Bool.and_true, decide_eq_true_eq] at hs
  exact hs⟩
theorem all_all {H : Type} {e : TypeId} : ∀ {l : List (DataW H)}, (DataW.weightsAll P e l).all (· ≤ reachBytes) = true → ∀ d ∈ l, (d.weights P e).all (· ≤ reachBytes) = true
  | [], _, d, hd => by cases hd
  | c :: l, h, d, hd => by
    simp only [DataW.weightsAll, List.all_append, Bool.and_eq_true] at h
    rcases List.mem_cons.1 hd with rfl | hd
    · exact h.1
    · exact all_all h.2 d hd
theorem cellAt {b o i j : Nat} : ((⟨b, o, none⟩ : Addr).add i).add j = ⟨b, o + i + j, none⟩ := by
  unfold Addr.add
  split <;> split <;> simp_all [Nat.add_assoc]
theorem rds_slice {te : TypeId} (ht : P.underlying t = some (.slice te)) (hc : P.cellsOf t = 1) (h : Rds P W te e ok) : Rds P W t (eS e) (isL (P.bytesOf te) ok) := ⟨hc, fun H enc fuel vs x hx hs => by
  rcases DataW.trod_slice ht hx with ⟨rfl, rfl⟩ | ⟨a, len, cap, elems, rest, n, rfl, rfl, rfl, _, hl, _, hn, hel, _, _⟩
  · exact ⟨[], by simp only [eS, vS, LI, VI]; exact ⟨_, _, rfl, ⟨none, 0, rfl, Nat.le_refl _, .inl rfl⟩, rfl⟩, by simp [isL]⟩
  · simp only [DataW.weights, ht, List.all_cons, List.all_append, Bool.and_eq_true, decide_eq_true_eq, List.length_map] at hs
    obtain ⟨h1, h2, _⟩ := hs
    obtain ⟨hE, hr⟩ := h
    -- the elements from k on
    have key : ∀ m, m ≤ len → ∃ ys : List α, ys.length = m ∧ (∀ y ∈ ys, ok y) ∧ ∀ b o, a.block = b → (∀ i j v, W.cell? ((a.add (i * e.E)).add j) = some v → (a.add (i * e.E)).add j = ⟨b, o + i * e.E + j, none⟩) → CI (lowS W) W (cs e ys) b (o + (len - m) * e.E) := by
      intro m
      induction m with
      | zero => intro _; exact ⟨[], rfl, by simp, fun b o _ _ => by simp [cs, CI]⟩
      | succ m ih =>
        intro hm
        obtain ⟨ys, k1, k2, k3⟩ := ih (by omega)
        have g := hel (len - (m + 1)) (by omega)
        rw [List.getElem?_eq_getElem (by omega)] at g
        obtain ⟨cvs, g1, g2⟩ := Option.bind_eq_some_iff.1 g
        obtain ⟨_, g3, g4⟩ := World.cells?_some g1
        obtain ⟨y, y1, y2⟩ := hr H enc n cvs _ g2 (all_all h2 _ (List.mem_map.2 ⟨_, List.getElem_mem _, rfl⟩))
        refine ⟨y :: ys, by simp [k1], by simpa using ⟨y2, k2⟩, fun b o hb hf => ?_⟩
        have e1 : len - m = len - (m + 1) + 1 := by omega
        have := k3 b o hb hf
        rw [e1, Nat.succ_mul, ← Nat.add_assoc] at this
        show CI (lowS W) W (cs e (y :: ys)) b _
        rw [cs_cons]
        refine CI_app ?_ (by rw [e.len]; exact this)
        refine CI_cells y1 fun i hi => ?_
        rw [e.len] at hi
        have g5 := g4 i (by omega)
        rw [hE] at g5
        have hi2 : i < cvs.length := by omega
        rw [List.getElem?_eq_getElem hi2] at g5 ⊢
        rw [← hf _ i _ g5]
        exact g5
    obtain ⟨ys, k1, k2, k3⟩ := key len (Nat.le_refl _)
    refine ⟨ys, ?_, by unfold isL; rw [k1]; exact ⟨by rw [hn] at h1; exact Nat.le_trans (Nat.mul_le_mul_right _ (Nat.le_add_right _ _)) h1, k2⟩⟩
    simp only [eS, vS, LI, VI]
    refine ⟨_, _, rfl, ⟨some a, cap, by rw [k1], by omega, ?_⟩, rfl⟩
    by_cases hz : len = 0 ∨ e.E = 0
    · left
      have : (cs e ys).length = 0 := by rw [cs_length, k1]; rcases hz with h | h <;> simp [h]
      exact List.eq_nil_of_length_eq_zero this
    · right
      have hp : 0 < len ∧ 0 < e.E := by omega
      have g := hel 0 hp.1
      rw [List.getElem?_eq_getElem (by omega)] at g
      obtain ⟨cvs, g1, g2⟩ := Option.bind_eq_some_iff.1 g
      obtain ⟨_, g3, g4⟩ := World.cells?_some g1
      have g5 := g4 0 (by omega)
      rw [List.getElem?_eq_getElem (by omega)] at g5
      have hsp : a.spot = none := by
        have := World.cell?_spot g5
        simpa [Addr.add] using this
      obtain ⟨b, o, sp⟩ := a
      simp only at hsp
      subst hsp
      refine ⟨b, o, rfl, ?_⟩
      have := k3 b o rfl fun i j v _ => cellAt
      simpa using this⟩
/-- The fields from the cell o on. -/
def RdFs (P : Program) (W : World) (o : Nat) (fs : List Field) {α : Type} (f : α → List V) (n : Nat) (ok : α → Prop) : Prop :=
  ∀ (H : Type) (enc : TypeId × Value → H) (fuel : Nat) (vs : List Value) (xs : List (DataW H × List MemPlace)), vs.length = o + n → xs.length = fs.length → (∀ (i : Nat) (g : Field), fs[i]? = some g → DataW.trod enc P W 0 (fun _ => true) true fuel g.type ((vs.drop g.offset).take (P.cellsOf g.type)) = xs[i]?) → (DataW.weightsEach P (fs.map (·.type)) (xs.map (·.1))).all (· ≤ reachBytes) = true → ∃ y : α, LI (lowS W) W (f y) (vs.drop o) ∧ ok y
theorem rdf_nil {o : Nat} : RdFs P W o [] (fun _ : Unit => []) 0 (fun _ => True) := fun H enc fuel vs xs hl _ _ _ => ⟨(), by
  simp only [LI]
  exact List.drop_eq_nil_of_le (by omega), trivial⟩
theorem rdf_cons {o n : Nat} {g : Field} {fs : List Field} {f : β → List V} {ok2 : β → Prop} (ho : g.offset = o) (h : Rds P W g.type e ok) (hr : RdFs P W (o + e.E) fs f n ok2) : RdFs P W o (g :: fs) (fun p : α × β => e.f p.1 ++ f p.2) (e.E + n) (fun p => ok p.1 ∧ ok2 p.2) := fun H enc fuel vs xs hl hx hf hw => by
  obtain ⟨hE, h⟩ := h
  cases xs with
  | nil => cases hx
  | cons x xs =>
    have h0 := hf 0 g rfl
    simp only [List.map_cons, DataW.weightsEach, List.all_append, Bool.and_eq_true] at hw
    obtain ⟨y, y1, y2⟩ := h H enc fuel _ x h0 hw.1
    obtain ⟨z, z1, z2⟩ := hr H enc fuel vs xs (by omega) (by simpa using hx) (fun i g' hg => hf (i + 1) g' hg) hw.2
    refine ⟨(y, z), LI_app ?_ ?_, y2, z2⟩
    · rw [e.len, ← hE, ← ho]; exact y1
    · rw [e.len, List.drop_drop]; exact z1
theorem rds_struct {fs : Array Field} {n : Nat} {f : β → List V} {ok1 : β → Prop} (mk : β → α) (ht : P.underlying t = some (.struct fs)) (hc : P.cellsOf t = e.E) (hr : RdFs P W 0 fs.toList f n ok1) (hn : n = e.E) (hf : ∀ p, e.f (mk p) = f p) (hk : ∀ p, ok1 p → ok (mk p)) : Rds P W t e ok := ⟨hc, fun H enc fuel vs x h hw => by
  obtain ⟨xs, m, rfl, rfl, h1, h2, h3⟩ := DataW.trod_struct ht h
  simp only [DataW.weights, ht] at hw
  obtain ⟨y, y1, y2⟩ := hr H enc m vs xs (by omega) (by simpa using h2) (fun i g hg => h3 i g (by simpa using hg)) hw
  exact ⟨mk y, by rw [hf]; simpa using y1, hk _ y2⟩⟩
variable {H : Type} {enc : TypeId × Value → H} {base : Nat} {v : Value} {d : DataW H} {p : List MemPlace}
theorem arg_one {g : α → V} (hv : v.cells.toList = [v]) (hg : ∀ y, e.f y = [g y]) (hr : Rds P W t e ok) (h : DataW.Trod enc P W 0 (fun _ => true) true t v d p) (hw : (d.weights P t).all (· ≤ reachBytes) = true) : ∃ y, VI (lowS W) W (g y) v ∧ ok y := by
  obtain ⟨fuel, h⟩ := h
  obtain ⟨y, h1, h2⟩ := hr.2 H enc fuel _ _ h hw
  refine ⟨y, ?_, h2⟩
  rw [hg, hv] at h1
  simp only [LI] at h1
  obtain ⟨x, xs, e1, e2, _⟩ := h1
  cases e1
  exact e2
theorem arg_slice {te : TypeId} (ht : P.underlying t = some (.slice te)) (hr : Rds P W t (eS e) (isL (P.bytesOf te) ok)) (hv : Value.okWide P W .any base t v) (h : DataW.Trod enc P W 0 (fun _ => true) true t v d p) (hw : (d.weights P t).all (· ≤ reachBytes) = true) : ∃ y, VI (lowS W) W (vS e y) v ∧ isL (P.bytesOf te) ok y := by
  obtain ⟨a, l, c, rfl⟩ := WideShapes.okWide_slice ht hv
  exact arg_one (g := fun y => vS e y) rfl (fun _ => rfl) hr h hw
theorem arg_int {k : IntKind} (ht : P.underlying t = some (.int k)) (hv : Value.okWide P W .any base t v) (h : DataW.Trod enc P W 0 (fun _ => true) true t v d p) : ∃ y, VI (lowS W) W (vI k y) v ∧ isI k y := by
  obtain ⟨a, rfl, rfl, rfl, wa⟩ := ChangeShapes.open_int ht hv h
  exact ⟨a, by simp only [VI], wa⟩
theorem arg_struct {fs : Array Field} (ht : P.underlying t = some (.struct fs)) (hr : Rds P W t e ok) (hv : Value.okWide P W .any base t v) (h : DataW.Trod enc P W 0 (fun _ => true) true t v d p) (hw : (d.weights P t).all (· ≤ reachBytes) = true) : ∃ y, VI (lowS W) W (.ag (e.f y)) v ∧ ok y := by
  simp only [Value.okWide, ht] at hv
  obtain ⟨cs, rfl, _, _⟩ := hv
  obtain ⟨fuel, h⟩ := h
  obtain ⟨y, h1, h2⟩ := hr.2 H enc fuel _ _ h hw
  exact ⟨y, by simp only [VI]; exact ⟨cs, rfl, h1⟩, h2⟩
/-- Arguments that are read alone. -/
theorem LO_ro {w : World} : ∀ {ts : List V} {vs : List Value}, LI S w ts vs → LO S w ((ts.map Arg.ro).map Arg.tree) vs FS.none
  | [], vs, h => by simpa only [List.map_nil, LO, LI] using h
  | t :: ts, vs, h => by
    simp only [LI] at h
    obtain ⟨x, xs, rfl, h1, h2⟩ := h
    simp only [List.map_cons, LO, Arg.tree, VO]
    exact ⟨x, xs, FS.none, FS.none, rfl, h1, LO_ro h2, FS.none_dis, FS.none_sub, FS.none_sub⟩
theorem ioVals_ro : ∀ (ts : List V) (l : List Value), ioVals (ts.map Arg.ro) l = []
  | [], l => by cases l <;> rfl
  | t :: ts, [] => rfl
  | t :: ts, x :: l => by simp only [List.map_cons, ioVals]; exact ioVals_ro ts l
/-- A law's contract, called: true comes back, and what was there is as it was. -/
theorem law_calls {f : FuncId} {ts : List V} {args : Array Value} (hc : CallOK P f (ts.map Arg.ro) [] (vB true)) (h : LI (lowS W) W ts args.toList) : Calls P f args W fun e w' => e = .returned (.bool true) ∧ Below W.heap.size W w' := by
  refine (hc.2 (lowS W) (lowS W) W.heap.size W args FS.none FS.sub.refl (fun b o h => h) (Nat.le_refl _) (LO_ro h) FS.none_dis (fun b o h => h.elim)).mono ?_
  rintro e w' ⟨x, F', rfl, hl, _, _, hb, _⟩
  have e0 : ioVals (ts.map Arg.ro) args.toList = [] := ioVals_ro _ _
  rw [e0] at hl
  simp only [List.nil_append, LO, vB, VO] at hl
  obtain ⟨y, ys, F1, F2, e1, e2, _⟩ := hl
  cases e1
  rw [e2]
  exact ⟨rfl, hb⟩
end
end Go.Eng
