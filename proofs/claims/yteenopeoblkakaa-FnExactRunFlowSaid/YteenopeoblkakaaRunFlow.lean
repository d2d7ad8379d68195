/-
  The law FnExactRunFlow returns true at every input, and the input reads behind the call as it did before. Conditions: none but the row's own.
-/
import Derived.Test.YteenopeoblkakaaFC
import Derived.Test.YteenopeoblkakaaRows
set_option linter.unusedVariables false
set_option linter.unusedSimpArgs false
set_option linter.unnecessarySimpa false
set_option linter.unusedVariables false
namespace Go.Eng
/-! Plain facts for the laws. -/
section
variable {α : Type} {xs ys : List α} {k n : Nat} {d x : α}
theorem idx_nat (h : k < n) : idx (k : Int) n = some k := by
  unfold idx
  rw [if_pos ⟨by omega, by omega⟩]
  simp
theorem w64_id {i : Int} (h : -9223372036854775808 ≤ i) (h2 : i < 9223372036854775808) : w64 i = i := by
  unfold w64 IntKind.wrap
  simp only [show IntKind.i64.signed = true from rfl, show IntKind.i64.bits = 64 from rfl, Bool.true_and, decide_eq_true_eq, Int.reduceSub, Nat.reduceSub, Int.reducePow]
  split <;> omega
theorem w64_nat (h : k < 4611686018427387904) : w64 ((k : Int) + 1) = ((k + 1 : Nat) : Int) := by
  rw [w64_id] <;> omega
theorem drop_cons_F {t : List α} (h : xs.drop k = x :: t) : k < xs.length ∧ xs.getD k d = x ∧ xs.drop (k + 1) = t := by
  have hl : k < xs.length := by
    rcases Nat.lt_or_ge k xs.length with g | g
    · exact g
    · rw [List.drop_eq_nil_of_le g] at h; cases h
  rw [List.drop_eq_getElem_cons hl] at h
  simp only [List.cons.injEq] at h
  exact ⟨hl, by rw [List.getD, List.getElem?_eq_getElem hl]; exact h.1, h.2⟩
theorem drop_nil_F (h : xs.drop k = []) (hk : k ≤ xs.length) : k = xs.length := by
  have := List.drop_eq_nil_iff.1 h
  omega
theorem chk_T {c : Prop} {i : Decidable c} (h : c) : @chk c i = some () := by
  unfold chk
  rw [if_pos h]
theorem lt_T (h : k < n) : decide ((k : Int) < (n : Int)) = true := decide_eq_true (by omega)
theorem lt_F (h : n ≤ k) : decide ((k : Int) < (n : Int)) = false := decide_eq_false (by omega)
theorem copy_ln (hk : k ≤ xs.length) : (xs.take k ++ List.replicate (xs.length - k) d).length = xs.length := by
  rw [List.length_append, List.length_take, List.length_replicate]
  omega
theorem copy_step (h : k < xs.length) : (xs.take k ++ List.replicate (xs.length - k) d).set k (xs.getD k d) = xs.take (k + 1) ++ List.replicate (xs.length - (k + 1)) d := by
  apply List.ext_getElem?
  intro i
  rw [List.getElem?_set]
  by_cases hi : k = i
  · subst hi
    have h1 : k < (xs.take k ++ List.replicate (xs.length - k) d).length := by rw [copy_ln (by omega)]; exact h
    have h2 : k < (xs.take (k + 1)).length := by rw [List.length_take]; omega
    rw [if_pos rfl, if_pos h1, List.getElem?_append_left h2, List.getElem?_take, if_pos (by omega), List.getD, List.getElem?_eq_getElem h]
    rfl
  · rw [if_neg hi]
    by_cases hl : i < k
    · have h1 : i < (xs.take k).length := by rw [List.length_take]; omega
      have h2 : i < (xs.take (k + 1)).length := by rw [List.length_take]; omega
      rw [List.getElem?_append_left h1, List.getElem?_append_left h2, List.getElem?_take, List.getElem?_take, if_pos hl, if_pos (by omega)]
    · have h1 : (xs.take k).length ≤ i := by rw [List.length_take]; omega
      have h2 : (xs.take (k + 1)).length ≤ i := by rw [List.length_take]; omega
      rw [List.getElem?_append_right h1, List.getElem?_append_right h2, List.length_take, List.length_take, List.getElem?_replicate, List.getElem?_replicate]
      have e1 : min k xs.length = k := by omega
      have e2 : min (k + 1) xs.length = k + 1 := by omega
      rw [e1, e2]
      by_cases hg : i < xs.length
      · rw [if_pos (by omega), if_pos (by omega)]
      · rw [if_neg (by omega), if_neg (by omega)]
theorem copy_all : xs.take xs.length ++ List.replicate (xs.length - xs.length) d = xs := by simp
theorem big_of_isL {m : Nat} {ok : α → Prop} (h : isL m ok xs) (hm : 0 < m) : xs.length < 140737488355328 := by
  have := h.1
  have h2 : xs.length * 1 ≤ xs.length * m := Nat.mul_le_mul_left _ hm
  unfold reachBytes at this
  omega
theorem isL_drop {m : Nat} {ok : α → Prop} (h : isL m ok xs) {t : List α} (hd : xs.drop k = x :: t) : ok x := h.2 x (List.mem_of_mem_drop (hd ▸ List.mem_cons_self))
end
end Go.Eng
set_option linter.unusedVariables false
set_option maxRecDepth 100000
set_option maxHeartbeats 1000000
namespace Go.Eng
open Go.Proofs
theorem rd3 (W : World) : Rds Try.prog W 3 (eI .i64) (isI .i64) := rds_int Try.underlying3 (by kernel_rfl)
def T131.ok (x : T131) : Prop := (isI .i64) x.f0 ∧ (isI .i64) x.f1 ∧ (isI .i64) x.f2 ∧ (isI .i64) x.f3 ∧ (isI .i64) x.f4 ∧ (isI .i64) x.f5
theorem rd131 (W : World) : Rds Try.prog W 131 eT131 T131.ok := by
  refine rds_struct (β := Int × Int × Int × Int × Int × Int × Unit) (fun p => ⟨p.1, p.2.1, p.2.2.1, p.2.2.2.1, p.2.2.2.2.1, p.2.2.2.2.2.1⟩) Try.underlying131 (by kernel_rfl) (rdf_cons (e := eI .i64) (ok := (isI .i64)) ?_ ?_ (rdf_cons (e := eI .i64) (ok := (isI .i64)) ?_ ?_ (rdf_cons (e := eI .i64) (ok := (isI .i64)) ?_ ?_ (rdf_cons (e := eI .i64) (ok := (isI .i64)) ?_ ?_ (rdf_cons (e := eI .i64) (ok := (isI .i64)) ?_ ?_ (rdf_cons (e := eI .i64) (ok := (isI .i64)) ?_ ?_ (rdf_nil))))))) ?_ ?_ ?_
  · rfl
  · exact rd3 W
  · rfl
  · exact rd3 W
  · rfl
  · exact rd3 W
  · rfl
  · exact rd3 W
  · rfl
  · exact rd3 W
  · rfl
  · exact rd3 W
  · rfl
  · exact fun _ => rfl
  · exact fun p h => ⟨h.1, h.2.1, h.2.2.1, h.2.2.2.1, h.2.2.2.2.1, h.2.2.2.2.2.1⟩
theorem rd58 (W : World) : Rds Try.prog W 58 (eS eT131) (isL 48 T131.ok) := by
  have := rds_slice (t := 58) Try.underlying58 (by kernel_rfl) (rd131 W)
  rwa [show Try.prog.bytesOf 131 = 48 from by kernel_rfl] at this
theorem rd42 (W : World) : Rds Try.prog W 42 (eS (eI .i64)) (isL 8 (isI .i64)) := by
  have := rds_slice (t := 42) Try.underlying42 (by kernel_rfl) (rd3 W)
  rwa [show Try.prog.bytesOf 3 = 8 from by kernel_rfl] at this
def T115.ok (x : T115) : Prop := (isL 48 T131.ok) x.f0 ∧ (isI .i64) x.f1 ∧ (isI .i64) x.f2 ∧ (isL 8 (isI .i64)) x.f3
theorem rd115 (W : World) : Rds Try.prog W 115 eT115 T115.ok := by
  refine rds_struct (β := (List T131) × Int × Int × (List Int) × Unit) (fun p => ⟨p.1, p.2.1, p.2.2.1, p.2.2.2.1⟩) Try.underlying115 (by kernel_rfl) (rdf_cons (e := eS eT131) (ok := (isL 48 T131.ok)) ?_ ?_ (rdf_cons (e := eI .i64) (ok := (isI .i64)) ?_ ?_ (rdf_cons (e := eI .i64) (ok := (isI .i64)) ?_ ?_ (rdf_cons (e := eS (eI .i64)) (ok := (isL 8 (isI .i64))) ?_ ?_ (rdf_nil))))) ?_ ?_ ?_
  · rfl
  · exact rd58 W
  · rfl
  · exact rd3 W
  · rfl
  · exact rd3 W
  · rfl
  · exact rd42 W
  · rfl
  · exact fun _ => rfl
  · exact fun p h => ⟨h.1, h.2.1, h.2.2.1, h.2.2.2.1⟩
theorem rd41 (W : World) : Rds Try.prog W 41 (eS eT115) (isL 64 T115.ok) := by
  have := rds_slice (t := 41) Try.underlying41 (by kernel_rfl) (rd115 W)
  rwa [show Try.prog.bytesOf 115 = 64 from by kernel_rfl] at this
def T44.ok (x : T44) : Prop := (isL 8 (isI .i64)) x.f0 ∧ (isL 8 (isI .i64)) x.f1 ∧ (isL 8 (isI .i64)) x.f2
theorem rd44 (W : World) : Rds Try.prog W 44 eT44 T44.ok := by
  refine rds_struct (β := (List Int) × (List Int) × (List Int) × Unit) (fun p => ⟨p.1, p.2.1, p.2.2.1⟩) Try.underlying44 (by kernel_rfl) (rdf_cons (e := eS (eI .i64)) (ok := (isL 8 (isI .i64))) ?_ ?_ (rdf_cons (e := eS (eI .i64)) (ok := (isL 8 (isI .i64))) ?_ ?_ (rdf_cons (e := eS (eI .i64)) (ok := (isL 8 (isI .i64))) ?_ ?_ (rdf_nil)))) ?_ ?_ ?_
  · rfl
  · exact rd42 W
  · rfl
  · exact rd42 W
  · rfl
  · exact rd42 W
  · rfl
  · exact fun _ => rfl
  · exact fun p h => ⟨h.1, h.2.1, h.2.2.1⟩
end Go.Eng
namespace Go.Proofs.Yteenopeoblkakaa
open Go.ChangeShapes Go.WideShapes Go.ChangeAt Go.RowKit Go.Eng
theorem own : ownKnob Try.prog.godebug = none := by kernel_rfl
theorem laidOut : laidOutB Try.prog = true := by kernel_rfl
theorem fnExactRunFlow_facts : joinedFacts Try.pinned.checked.prog 4 Try.f4 Rows.fnExactRunFlowSpec Rows.fnExactRunFlowRow = true := by kernel_rfl
theorem fnExactRunFlow_named : Try.pinned.checked.prog.funcNamed Rows.fnExactRunFlowRow.func = some 4 := by kernel_rfl
theorem fnExactRunFlow_inst : decide (Try.f4.isInstance Try.pinned.checked.prog Rows.fnExactRunFlowRow.origin Rows.fnExactRunFlowRow.targs) = true := by kernel_rfl
theorem fnExactRunFlow_wrap : Try.f4.isWrapper Try.pinned.checked.prog Rows.fnExactRunFlowRow.wrapper Rows.fnExactRunFlowRow.mainSum := by unfold Func.isWrapper; first | (rw [if_pos (by decide +kernel)]; kernel_rfl) | (rw [if_neg (by decide +kernel)]; exact ⟨rfl, rfl⟩)
set_option maxRecDepth 100000 in
theorem fnExactRunFlow_lifted (law : ∀ (a0 : List T115) (a1 : T44) (a2 : Int), (isL 64 T115.ok) a0 → T44.ok a1 → (isI .i64) a2 → ∃ n, F4.fn n a0 a1 a2 = some true) (os : Os) (started : os.Started) (H : Type) (enc : TypeId × Value → H) :
    ReturnsInHanded {} Try.checked os 4 .any (Rows.fnExactRunFlowSpec.pre6 enc Try.prog Try.f4 Rows.fnExactRunFlowRow.domain false) (Rows.fnExactRunFlowSpec.post enc Try.prog Try.f4 false true false false) := by
  refine returnsInHanded_of_change_sized (C := Try.checked) own started (by kernel_rfl) Try.func4
    (ChangeSpec.witness6 (enc := enc) (C := Try.checked) false ⟨#[], #[.slice none 0 0, .agg #[.slice none 0 0, .slice none 0 0, .slice none 0 0], .int .i64 0], []⟩ 8 (by kernel_rfl) (by kernel_rfl) (by kernel_rfl) (by kernel_rfl)) ?_
  intro W base args ds gs before hval0 hW _ hsz0 _
  have hval : ∀ (j : Nat) t v, Try.f4.params[j]? = some t → args[j]? = some v → Value.okWide Try.prog W .any base t v := hval0
  have hsz : (DataW.weightsEach Try.prog (Try.f4.params.toList ++ Rows.fnExactRunFlowSpec.plain.varTypes Try.prog) (ds ++ gs)).all (· ≤ reachBytes) = true := hsz0
  clear hsz0 hval0
  have hW' := hW
  obtain ⟨p, q, hA0, hV, rfl, _, _⟩ := hW
  have hA : DataW.TrodAll enc Try.prog W 0 (fun _ => true) true Try.f4.params.toList args.toList ds p := hA0
  clear hA0
  rw [Try.params4] at hA hval hsz
  obtain ⟨v0, v1, v2, d0, d1, d2, p0, p1, p2, rfl, rfl, rfl, h0, h1, h2⟩ := trodAll_three hA
  obtain ⟨rfl, rfl⟩ := trodVars_none hV
  simp only [List.append_nil] at hW'
  have hlt : ∀ x ∈ p0 ++ p1 ++ p2, x.block < W.heap.size := fun x hx => by simpa using hW'.lt x hx
  have hsz2 : (DataW.weightsEach Try.prog [41, 44, 3] [d0, d1, d2]).all (fun x => decide (x ≤ reachBytes)) = true := hsz
  simp only [DataW.weightsEach, List.all_append, Bool.and_eq_true] at hsz2
  obtain ⟨w0, w1, w2, _⟩ := hsz2
  obtain ⟨a0, x0, k0⟩ := arg_slice (ok := T115.ok) Try.underlying41 (by have := rd41 W; rwa [show (64 : Nat) = Try.prog.bytesOf 115 from by kernel_rfl] at this) (hval 0 41 v0 rfl rfl) h0 w0
  rw [show Try.prog.bytesOf 115 = 64 from by kernel_rfl] at k0
  obtain ⟨a1, x1, k1⟩ := arg_struct Try.underlying44 (rd44 W) (hval 1 44 v1 rfl rfl) h1 w1
  obtain ⟨a2, x2, k2⟩ := arg_int Try.underlying3 (hval 2 3 v2 rfl rfl) h2
  obtain ⟨m, hm⟩ := law a0 a1 a2 k0 k1 k2
  refine (law_calls (ts := [(vS eT115 a0), (.ag (eT44.f a1)), (vI .i64 a2)]) (F4.fn_c m a0 a1 a2 _ hm) (by simp only [LI]; exact ⟨_, _, rfl, x0, ⟨_, _, rfl, x1, ⟨_, _, rfl, x2, rfl⟩⟩⟩)).mono ?_
  rintro e W1 ⟨rfl, hb⟩
  refine ⟨_, rfl, _, _, _, [], (p0 ++ (p1 ++ (p2))), [], hW', trodAll_mk1 (shut_bool Try.underlying4 _), trodAll_mk3 (Below.trod laidOut (by kernel_rfl) (of_decide_eq_true (by kernel_rfl)) h0 hb (fun x hx => hlt x (List.mem_append.2 (.inl (List.mem_append.2 (.inl hx)))))) (Below.trod laidOut (by kernel_rfl) (of_decide_eq_true (by kernel_rfl)) h1 hb (fun x hx => hlt x (List.mem_append.2 (.inl (List.mem_append.2 (.inr hx)))))) (Below.trod laidOut (by kernel_rfl) (of_decide_eq_true (by kernel_rfl)) h2 hb (fun x hx => hlt x (List.mem_append.2 (.inr hx)))), rfl, hb.frame _, fun h => by cases h⟩
theorem fnExactRunFlow_holds (law : ∀ (a0 : List T115) (a1 : T44) (a2 : Int), (isL 64 T115.ok) a0 → T44.ok a1 → (isI .i64) a2 → ∃ n, F4.fn n a0 a1 a2 = some true) : Rows.FnExactRunFlowSaid :=
  OpenClaim.holds_of_wide 4 Try.f4 rfl rfl rfl rfl rfl rfl rfl ⟨rfl, rfl, rfl, rfl, rfl⟩ rfl rfl rfl rfl rfl fnExactRunFlow_named Try.func4 fnExactRunFlow_facts
    (of_decide_eq_true fnExactRunFlow_inst) fnExactRunFlow_wrap
    (fun os started H enc _ => fnExactRunFlow_lifted law os started H enc)
end Go.Proofs.Yteenopeoblkakaa
set_option linter.unusedVariables false
set_option linter.unusedSimpArgs false
namespace Go.Eng
variable {N : Nat}
/-! copies -/
theorem F41_p {a : List Int} (ha : a.length < 140737488355328) : ∀ (t : List Int) (k n : Nat), a.drop k = t → k ≤ a.length → t.length < n → F41.p0 N a n (a.take k ++ List.replicate (a.length - k) 0) (k : Int) = some a
  | [], k, n + 1, h, hk, _ => by
    obtain rfl := drop_nil_F h hk
    rw [F41.p0, lt_F (Nat.le_refl _), cond_false, copy_all]
  | x :: t, k, n + 1, h, hk, hn => by
    obtain ⟨h1, h2, h3⟩ := drop_cons_F (d := 0) h
    rw [F41.p0, lt_T h1, cond_true, idx_nat h1, Option.bind_some, idx_nat (by rw [copy_ln hk]; exact h1), Option.bind_some, copy_step h1, w64_nat (by omega)]
    exact F41_p ha t (k + 1) n h3 (by omega) (by simpa using hn)
theorem F41_fn (hN : 140737488355328 ≤ N) {a : List Int} (h : isL 8 (isI .i64) a) : F41.fn N a = some a := by
  have hb := big_of_isL h (by decide)
  have hr := h.1
  unfold reachBytes at hr
  have : F41.p0 N a N (List.replicate a.length 0) (0 : Int) = some a := by simpa using F41_p (N := N) hb a 0 N rfl (Nat.zero_le _) (by omega)
  rw [F41.fn, chk_T (by omega), Option.bind_some, this, Option.bind_some]
theorem F40_p {a : List T131} (ha : a.length < 140737488355328) : ∀ (t : List T131) (k n : Nat), a.drop k = t → k ≤ a.length → t.length < n → F40.p0 N a n (a.take k ++ List.replicate (a.length - k) default) (k : Int) = some a
  | [], k, n + 1, h, hk, _ => by
    obtain rfl := drop_nil_F h hk
    rw [F40.p0, lt_F (Nat.le_refl _), cond_false, copy_all]
  | x :: t, k, n + 1, h, hk, hn => by
    obtain ⟨h1, h2, h3⟩ := drop_cons_F (d := default) h
    rw [F40.p0, lt_T h1, cond_true, idx_nat h1, Option.bind_some, F103.fn, Option.bind_some, idx_nat (by rw [copy_ln hk]; exact h1), Option.bind_some, copy_step h1, w64_nat (by omega)]
    exact F40_p ha t (k + 1) n h3 (by omega) (by simpa using hn)
theorem F40_fn (hN : 140737488355328 ≤ N) {a : List T131} (h : isL 48 T131.ok a) : F40.fn N a = some a := by
  have hb := big_of_isL h (by decide)
  have hr := h.1
  unfold reachBytes at hr
  have : F40.p0 N a N (List.replicate a.length default) (0 : Int) = some a := by simpa using F40_p (N := N) hb a 0 N rfl (Nat.zero_le _) (by omega)
  rw [F40.fn, chk_T (by omega), Option.bind_some, this, Option.bind_some]
theorem F95_fn (hN : 140737488355328 ≤ N) {a : T115} (h : T115.ok a) : F95.fn N a = some a := by
  rw [F95.fn, F40_fn hN h.1, Option.bind_some, F41_fn hN h.2.2.2, Option.bind_some]
theorem F30_p (hN : 140737488355328 ≤ N) {a : List T115} (ha : a.length < 140737488355328) (ho : ∀ x ∈ a, T115.ok x) : ∀ (t : List T115) (k n : Nat), a.drop k = t → k ≤ a.length → t.length < n → F30.p0 N a n (a.take k ++ List.replicate (a.length - k) default) (k : Int) = some a
  | [], k, n + 1, h, hk, _ => by
    obtain rfl := drop_nil_F h hk
    rw [F30.p0, lt_F (Nat.le_refl _), cond_false, copy_all]
  | x :: t, k, n + 1, h, hk, hn => by
    obtain ⟨h1, h2, h3⟩ := drop_cons_F (d := default) h
    have ho' : T115.ok (a.getD k default) := by rw [h2]; exact ho x (List.mem_of_mem_drop (h ▸ List.mem_cons_self))
    rw [F30.p0, lt_T h1, cond_true, idx_nat h1, Option.bind_some, F95_fn hN ho', Option.bind_some, idx_nat (by rw [copy_ln hk]; exact h1), Option.bind_some, copy_step h1, w64_nat (by omega)]
    exact F30_p hN ha ho t (k + 1) n h3 (by omega) (by simpa using hn)
theorem F30_fn (hN : 140737488355328 ≤ N) {a : List T115} (h : isL 64 T115.ok a) : F30.fn N a = some a := by
  have hb := big_of_isL h (by decide)
  have hr := h.1
  unfold reachBytes at hr
  have : F30.p0 N a N (List.replicate a.length default) (0 : Int) = some a := by simpa using F30_p (N := N) hN hb h.2 a 0 N rfl (Nat.zero_le _) (by omega)
  rw [F30.fn, chk_T (by omega), Option.bind_some, this, Option.bind_some]
theorem F31_fn (hN : 140737488355328 ≤ N) {a : T44} (h : T44.ok a) : F31.fn N a = some a := by
  rw [F31.fn, F41_fn hN h.1, Option.bind_some, F41_fn hN h.2.1, Option.bind_some, F41_fn hN h.2.2, Option.bind_some]
/-! the same twice -/
theorem F44_p {a : List Int} (ha : a.length < 140737488355328) : ∀ (t : List Int) (k n : Nat), a.drop k = t → k ≤ a.length → t.length < n → F44.p0 N a a n (k : Int) = some (.inr ())
  | [], k, n + 1, h, hk, _ => by
    obtain rfl := drop_nil_F h hk
    rw [F44.p0, lt_F (Nat.le_refl _), cond_false]
  | x :: t, k, n + 1, h, hk, hn => by
    obtain ⟨h1, h2, h3⟩ := drop_cons_F (d := 0) h
    rw [F44.p0, lt_T h1, cond_true, idx_nat h1, Option.bind_some, Option.bind_some, decide_eq_true rfl, Bool.not_true, cond_false, w64_nat (by omega)]
    exact F44_p ha t (k + 1) n h3 (by omega) (by simpa using hn)
theorem F44_fn (hN : 140737488355328 ≤ N) {a : List Int} (hb : a.length < 140737488355328) : F44.fn N a a = some true := by
  have : F44.p0 N a a N (0 : Int) = some (.inr ()) := F44_p (N := N) hb a 0 N rfl (Nat.zero_le _) (by omega)
  rw [F44.fn, decide_eq_true rfl, Bool.not_true, cond_false, this, Option.bind_some]
  rfl
theorem F33_fn (hN : 140737488355328 ≤ N) {a : T44} (h0 : a.f0.length < 140737488355328) (h1 : a.f1.length < 140737488355328) (h2 : a.f2.length < 140737488355328) : F33.fn N a a = some true := by
  rw [F33.fn, F44_fn hN h0, Option.bind_some, Bool.not_true, cond_false, F44_fn hN h1, Option.bind_some, Bool.not_true, cond_false, F44_fn hN h2, Option.bind_some, Bool.not_true, cond_false]
theorem F105_fn {a : T131} : F105.fn N a a = some true := by
  simp [F105.fn]
theorem F43_p {a : List T131} (ha : a.length < 140737488355328) : ∀ (t : List T131) (k n : Nat), a.drop k = t → k ≤ a.length → t.length < n → F43.p0 N a a n (k : Int) = some (.inr ())
  | [], k, n + 1, h, hk, _ => by
    obtain rfl := drop_nil_F h hk
    rw [F43.p0, lt_F (Nat.le_refl _), cond_false]
  | x :: t, k, n + 1, h, hk, hn => by
    obtain ⟨h1, h2, h3⟩ := drop_cons_F (d := default) h
    rw [F43.p0, lt_T h1, cond_true, idx_nat h1, Option.bind_some, Option.bind_some, F105_fn, Option.bind_some, Bool.not_true, cond_false, w64_nat (by omega)]
    exact F43_p ha t (k + 1) n h3 (by omega) (by simpa using hn)
theorem F43_fn (hN : 140737488355328 ≤ N) {a : List T131} (hb : a.length < 140737488355328) : F43.fn N a a = some true := by
  have : F43.p0 N a a N (0 : Int) = some (.inr ()) := F43_p (N := N) hb a 0 N rfl (Nat.zero_le _) (by omega)
  rw [F43.fn, decide_eq_true rfl, Bool.not_true, cond_false, this, Option.bind_some]
  rfl
theorem F101_fn (hN : 140737488355328 ≤ N) {a : T115} (h : T115.ok a) : F101.fn N a a = some true := by
  rw [F101.fn, F43_fn hN (big_of_isL h.1 (by decide)), Option.bind_some, Bool.not_true, cond_false, decide_eq_true rfl, Bool.not_true, cond_false, decide_eq_true rfl, Bool.not_true, cond_false, F44_fn hN (big_of_isL h.2.2.2 (by decide)), Option.bind_some, Bool.not_true, cond_false]
theorem F34_p (hN : 140737488355328 ≤ N) {a : List T115} (ha : a.length < 140737488355328) (ho : ∀ x ∈ a, T115.ok x) : ∀ (t : List T115) (k n : Nat), a.drop k = t → k ≤ a.length → t.length < n → F34.p0 N a a n (k : Int) = some (.inr ())
  | [], k, n + 1, h, hk, _ => by
    obtain rfl := drop_nil_F h hk
    rw [F34.p0, lt_F (Nat.le_refl _), cond_false]
  | x :: t, k, n + 1, h, hk, hn => by
    obtain ⟨h1, h2, h3⟩ := drop_cons_F (d := default) h
    have ho' : T115.ok (a.getD k default) := by rw [h2]; exact ho x (List.mem_of_mem_drop (h ▸ List.mem_cons_self))
    rw [F34.p0, lt_T h1, cond_true, idx_nat h1, Option.bind_some, Option.bind_some, F101_fn hN ho', Option.bind_some, Bool.not_true, cond_false, w64_nat (by omega)]
    exact F34_p hN ha ho t (k + 1) n h3 (by omega) (by simpa using hn)
theorem F34_fn (hN : 140737488355328 ≤ N) {a : List T115} (h : isL 64 T115.ok a) : F34.fn N a a = some true := by
  have hb := big_of_isL h (by decide)
  have : F34.p0 N a a N (0 : Int) = some (.inr ()) := F34_p (N := N) hN hb h.2 a 0 N rfl (Nat.zero_le _) (by omega)
  rw [F34.fn, decide_eq_true rfl, Bool.not_true, cond_false, this, Option.bind_some]
  rfl
/-! how much -/
def costB (b : T115) : Nat := b.f0.length + b.f3.length + 1
def costL : List T115 → Nat
  | [] => 0
  | b :: l => costB b + costL l
theorem F38_fn {a : List T131} {l : Int} (hb : a.length < 140737488355328) (h0 : 0 ≤ l) (h1 : l ≤ 1048576) : ∃ r, F38.fn N a l = some r ∧ (0 ≤ r → r + a.length = l) := by
  rw [F38.fn, w64_id (by omega) (by omega)]
  by_cases h : l - (a.length : Int) < 0
  · exact ⟨-1, by rw [decide_eq_true h, cond_true], by omega⟩
  · exact ⟨_, by rw [decide_eq_false h, cond_false], by omega⟩
theorem F90_fn {a : List Int} {l : Int} (hb : a.length < 140737488355328) (h0 : 0 ≤ l) (h1 : l ≤ 1048576) : ∃ r, F90.fn N a l = some r ∧ (0 ≤ r → r + a.length = l) := by
  rw [F90.fn, w64_id (by omega) (by omega)]
  by_cases h : l - (a.length : Int) < 0
  · exact ⟨-1, by rw [decide_eq_true h, cond_true], by omega⟩
  · exact ⟨_, by rw [decide_eq_false h, cond_false], by omega⟩
theorem F89_fn {a : T115} (h : T115.ok a) {l : Int} (h0 : 0 ≤ l) (h1 : l ≤ 1048576) : ∃ r, F89.fn N a l = some r ∧ (0 ≤ r → r + a.f0.length + a.f3.length = l) := by
  obtain ⟨r, e, hr⟩ := F38_fn (N := N) (big_of_isL h.1 (by decide)) h0 h1
  rw [F89.fn, e, Option.bind_some]
  by_cases g : r < 0
  · exact ⟨-1, by rw [decide_eq_true g, cond_true], by omega⟩
  · have := hr (by omega)
    obtain ⟨r2, e2, hr2⟩ := F90_fn (N := N) (big_of_isL h.2.2.2 (by decide)) (l := r) (by omega) (by omega)
    rw [decide_eq_false g, cond_false, e2, Option.bind_some]
    by_cases g2 : r2 < 0
    · exact ⟨-1, by rw [decide_eq_true g2, cond_true], by omega⟩
    · exact ⟨r2, by rw [decide_eq_false g2, cond_false], fun _ => by have := hr2 (by omega); omega⟩
theorem F27_p {a : List T115} (ha : a.length < 140737488355328) (ho : ∀ x ∈ a, T115.ok x) : ∀ (t : List T115) (k n : Nat) (l : Int), a.drop k = t → k ≤ a.length → t.length < n → 0 ≤ l → l ≤ 1048576 → ∃ r, F27.p0 N a n l (k : Int) = some r ∧ ∀ y, r = .inr y → 0 ≤ y ∧ y + costL t ≤ l + t.length
  | [], k, n + 1, l, h, hk, _, h0, _ => by
    obtain rfl := drop_nil_F h hk
    refine ⟨.inr l, by rw [F27.p0, lt_F (Nat.le_refl _), cond_false], fun y hy => ?_⟩
    cases hy
    simp [costL]
    exact h0
  | x :: t, k, n + 1, l, h, hk, hn, h0, hl => by
    obtain ⟨h1, h2, h3⟩ := drop_cons_F (d := default) h
    have ho' : T115.ok (a.getD k default) := by rw [h2]; exact ho x (List.mem_of_mem_drop (h ▸ List.mem_cons_self))
    obtain ⟨r, e, hr⟩ := F89_fn (N := N) ho' h0 hl
    rw [F27.p0, lt_T h1, cond_true, idx_nat h1, Option.bind_some, e, Option.bind_some, w64_nat (by omega)]
    by_cases g : r < 0
    · exact ⟨.inl (), by rw [decide_eq_true g, cond_true], fun y hy => by cases hy⟩
    · have hr := hr (by omega)
      rw [h2] at hr
      obtain ⟨r2, e2, k2⟩ := F27_p ha ho t (k + 1) n r h3 (by omega) (by simpa using hn) (by omega) (by omega)
      refine ⟨r2, by rw [decide_eq_false g, cond_false, e2], fun y hy => ?_⟩
      have := k2 y hy
      simp only [costL, costB, List.length_cons]
      omega
theorem F27_fn (hN : 140737488355328 ≤ N) {a : List T115} (h : isL 64 T115.ok a) {l : Int} (h0 : 0 ≤ l) (h1 : l ≤ 1048576) : ∃ r, F27.fn N a l = some r ∧ (0 ≤ r → r + costL a ≤ l) := by
  have hb := big_of_isL h (by decide)
  rw [F27.fn, w64_id (by omega) (by omega)]
  by_cases g : l - (a.length : Int) < 0
  · exact ⟨-1, by rw [decide_eq_true g, cond_true], by omega⟩
  · obtain ⟨r, e, hr⟩ := F27_p (N := N) hb h.2 a 0 N (l - a.length) rfl (Nat.zero_le _) (by omega) (by omega) (by omega)
    have e : F27.p0 N a N (l - a.length) (0 : Int) = some r := e
    rw [decide_eq_false g, cond_false, e, Option.bind_some]
    cases r with
    | inl y => exact ⟨-1, rfl, by omega⟩
    | inr y => exact ⟨y, rfl, fun _ => by have := hr y rfl; omega⟩
theorem F28_fn {a : T44} (h : T44.ok a) {l : Int} (h0 : 0 ≤ l) (h1 : l ≤ 1048576) : ∃ r, F28.fn N a l = some r ∧ (0 ≤ r → r + a.f0.length + a.f1.length + a.f2.length = l) := by
  obtain ⟨r, e, hr⟩ := F90_fn (N := N) (big_of_isL h.1 (by decide)) h0 h1
  rw [F28.fn, e, Option.bind_some]
  by_cases g : r < 0
  · exact ⟨-1, by rw [decide_eq_true g, cond_true], by omega⟩
  · have := hr (by omega)
    obtain ⟨r2, e2, hr2⟩ := F90_fn (N := N) (big_of_isL h.2.1 (by decide)) (l := r) (by omega) (by omega)
    rw [decide_eq_false g, cond_false, e2, Option.bind_some]
    by_cases g2 : r2 < 0
    · exact ⟨-1, by rw [decide_eq_true g2, cond_true], by omega⟩
    · have := hr2 (by omega)
      obtain ⟨r3, e3, hr3⟩ := F90_fn (N := N) (big_of_isL h.2.2 (by decide)) (l := r2) (by omega) (by omega)
      rw [decide_eq_false g2, cond_false, e3, Option.bind_some]
      by_cases g3 : r3 < 0
      · exact ⟨-1, by rw [decide_eq_true g3, cond_true], by omega⟩
      · exact ⟨r3, by rw [decide_eq_false g3, cond_false], fun _ => by have := hr3 (by omega); omega⟩
end Go.Eng
set_option linter.unusedVariables false
set_option linter.unusedSimpArgs false
namespace Go.Eng
variable {N : Nat}
/-! marks -/
theorem F49_p : ∀ (m i n : Nat) (v : List Int) (k : Int), i + m = v.length → m < n → 0 ≤ k → k + m < 4611686018427387904 → v.length < 140737488355328 → ∃ v', F49.p0 N n v k (i : Int) = some (v', k + m) ∧ v'.length = v.length ∧ (∀ j, j < i → v'.getD j 0 = v.getD j 0) ∧ (∀ j, j < m → v'.getD (i + j) 0 = k + j)
  | 0, i, n + 1, v, k, h, _, _, _, _ => by
    rw [F49.p0, lt_F (by omega), cond_false]
    exact ⟨v, by simp, rfl, fun _ _ => rfl, by omega⟩
  | m + 1, i, n + 1, v, k, h, hn, h0, h1, h2 => by
    have hi : i < v.length := by omega
    obtain ⟨v', e, e2, e3, e4⟩ := F49_p m (i + 1) n (v.set i k) (k + 1) (by rw [List.length_set]; omega) (by omega) (by omega) (by omega) (by rw [List.length_set]; exact h2)
    rw [F49.p0, lt_T hi, cond_true, idx_nat hi, Option.bind_some, w64_nat (by omega), w64_id (by omega) (by omega), e]
    refine ⟨v', by congr 2; omega, by rw [e2, List.length_set], fun j hj => ?_, fun j hj => ?_⟩
    · rw [e3 j (by omega)]
      simp only [List.getD, List.getElem?_set]
      rw [if_neg (by omega)]
    · cases j with
      | zero =>
        rw [Nat.add_zero, e3 i (by omega)]
        simp [List.getD, List.getElem?_set, hi]
      | succ j =>
        have := e4 j (by omega)
        rw [show i + (j + 1) = i + 1 + j from by omega, this]
        omega
theorem F49_fn (hN : 140737488355328 ≤ N) {a : List Int} {k : Int} (hb : a.length < 140737488355328) (h0 : 0 ≤ k) (h1 : k + a.length < 4611686018427387904) : ∃ v, F49.fn N a k = some (k + a.length, v) ∧ v.length = a.length ∧ ∀ j, j < a.length → v.getD j 0 = k + j := by
  obtain ⟨v, e, e2, _, e4⟩ := F49_p (N := N) a.length 0 N a k (by omega) (by omega) h0 h1 hb
  have e : F49.p0 N N a k (0 : Int) = some (v, k + a.length) := e
  rw [F49.fn, e, Option.bind_some]
  exact ⟨v, rfl, e2, fun j hj => by have := e4 j hj; rwa [Nat.zero_add] at this⟩
theorem F48_p : ∀ (m i n : Nat) (v : List T131) (k : Int), i + m = v.length → m < n → 0 ≤ k → k + 6 * m < 4611686018427387904 → v.length < 140737488355328 → ∃ v', F48.p0 N n v k (i : Int) = some (v', k + 6 * m) ∧ v'.length = v.length
  | 0, i, n + 1, v, k, h, _, _, _, _ => by
    rw [F48.p0, lt_F (by omega), cond_false]
    exact ⟨v, by simp, rfl⟩
  | m + 1, i, n + 1, v, k, h, hn, h0, h1, h2 => by
    have hi : i < v.length := by omega
    rw [F48.p0, lt_T hi, cond_true, idx_nat hi, Option.bind_some, w64_nat (by omega)]
    rw [w64_id (i := k + 1) (by omega) (by omega), w64_id (i := k + 1 + 1) (by omega) (by omega), w64_id (i := k + 1 + 1 + 1) (by omega) (by omega), w64_id (i := k + 1 + 1 + 1 + 1) (by omega) (by omega), w64_id (i := k + 1 + 1 + 1 + 1 + 1) (by omega) (by omega), w64_id (i := k + 1 + 1 + 1 + 1 + 1 + 1) (by omega) (by omega)]
    generalize hz : v.set i _ = z
    have hl : z.length = v.length := by rw [← hz, List.length_set]
    obtain ⟨v', e, e2⟩ := F48_p m (i + 1) n z (k + 1 + 1 + 1 + 1 + 1 + 1) (by omega) (by omega) (by omega) (by omega) (by omega)
    rw [e]
    exact ⟨v', by congr 2; omega, by rw [e2, hl]⟩
theorem F48_fn (hN : 140737488355328 ≤ N) {a : List T131} {k : Int} (hb : a.length < 140737488355328) (h0 : 0 ≤ k) (h1 : k + 6 * a.length < 4611686018427387904) : ∃ v, F48.fn N a k = some (k + 6 * a.length, v) ∧ v.length = a.length := by
  obtain ⟨v, e, e2⟩ := F48_p (N := N) a.length 0 N a k (by omega) (by omega) h0 h1 hb
  have e : F48.p0 N N a k (0 : Int) = some (v, k + 6 * a.length) := e
  rw [F48.fn, e, Option.bind_some]
  exact ⟨v, rfl, e2⟩
theorem F35_p (hN : 140737488355328 ≤ N) : ∀ (t : List T115) (i n : Nat) (v : List T115) (k : Int), v.drop i = t → i ≤ v.length → (∀ x ∈ t, T115.ok x) → t.length < n → 0 ≤ k → k + 8 * costL t < 4611686018427387904 → v.length < 140737488355328 → ∃ v' k', F35.p0 N n v k (i : Int) = some (v', k') ∧ v'.length = v.length ∧ 0 ≤ k' ∧ k' ≤ k + 8 * costL t
  | [], i, n + 1, v, k, h, hi, _, _, h0, _, _ => by
    obtain rfl := drop_nil_F h hi
    rw [F35.p0, lt_F (Nat.le_refl _), cond_false]
    exact ⟨v, k, rfl, rfl, h0, by simp [costL]⟩
  | x :: t, i, n + 1, v, k, h, hi, ho, hn, h0, h1, h2 => by
    obtain ⟨g1, g2, g3⟩ := drop_cons_F (d := default) h
    have hx := ho x List.mem_cons_self
    have b0 := big_of_isL hx.1 (by decide)
    have b3 := big_of_isL hx.2.2.2 (by decide)
    simp only [costL, costB] at h1
    obtain ⟨w, e, e2⟩ := F48_fn hN (a := x.f0) (k := k) b0 h0 (by omega)
    obtain ⟨u, c, c2, _⟩ := F49_fn hN (a := x.f3) (k := k + 6 * x.f0.length + 1 + 1) b3 (by omega) (by omega)
    rw [F35.p0, lt_T g1, cond_true, idx_nat g1, Option.bind_some, g2, e, Option.bind_some, chk_T e2, Option.bind_some, w64_nat (by omega)]
    simp only [T115.s2, T115.s1, T115.s0, T115.s3]
    rw [w64_id (i := k + 6 * x.f0.length + 1) (by omega) (by omega), w64_id (i := k + 6 * x.f0.length + 1 + 1) (by omega) (by omega), c, Option.bind_some]
    simp only
    erw [chk_T c2]
    rw [Option.bind_some]
    obtain ⟨v', k', q, q2, q3, q4⟩ := F35_p hN t (i + 1) n (v.set i ⟨w, k + 6 * x.f0.length, k + 6 * x.f0.length + 1, u⟩) (k + 6 * x.f0.length + 1 + 1 + x.f3.length) (by rw [List.drop_set_of_lt (by omega)]; exact g3) (by rw [List.length_set]; omega) (fun y hy => ho y (List.mem_cons_of_mem _ hy)) (by simpa using hn) (by omega) (by omega) (by rw [List.length_set]; exact h2)
    refine ⟨v', k', q, by rw [q2, List.length_set], q3, ?_⟩
    simp only [costL, costB]
    omega
theorem F35_fn (hN : 140737488355328 ≤ N) {a : List T115} (h : isL 64 T115.ok a) (hc : costL a ≤ 1048576) : ∃ v k, F35.fn N a 1 = some (k, v) ∧ v.length = a.length ∧ 0 ≤ k ∧ k ≤ 10000000 := by
  have hb := big_of_isL h (by decide)
  obtain ⟨v, k, e, e2, e3, e4⟩ := F35_p hN a 0 N a 1 rfl (by omega) h.2 (by omega) (by omega) (by omega) hb
  have e : F35.p0 N N a 1 (0 : Int) = some (v, k) := e
  rw [F35.fn, e, Option.bind_some]
  exact ⟨v, k, rfl, e2, e3, by omega⟩
/-- The numbers k, k + 1, .. -/
def Num (k : Int) (l : List Int) : Prop := ∀ j, j < l.length → l.getD j 0 = k + j
theorem F36_fn (hN : 140737488355328 ≤ N) {a : T44} {k : Int} (b0 : a.f0.length ≤ 1048576) (b1 : a.f1.length ≤ 1048576) (b2 : a.f2.length ≤ 1048576) (h0 : 0 ≤ k) (h1 : k ≤ 10000000) : ∃ v, F36.fn N a k = some (k + a.f0.length + a.f1.length + a.f2.length, v) ∧ v.f0.length = a.f0.length ∧ v.f1.length = a.f1.length ∧ v.f2.length = a.f2.length ∧ Num k v.f0 ∧ Num (k + a.f0.length) v.f1 ∧ Num (k + a.f0.length + a.f1.length) v.f2 := by
  obtain ⟨v0, e0, l0, n0⟩ := F49_fn hN (a := a.f0) (k := k) (by omega) (by omega) (by omega)
  obtain ⟨v1, e1, l1, n1⟩ := F49_fn hN (a := a.f1) (k := k + a.f0.length) (by omega) (by omega) (by omega)
  obtain ⟨v2, e2, l2, n2⟩ := F49_fn hN (a := a.f2) (k := k + a.f0.length + a.f1.length) (by omega) (by omega) (by omega)
  rw [F36.fn, e0, Option.bind_some, chk_T l0, Option.bind_some, e1, Option.bind_some, chk_T l1, Option.bind_some, e2, Option.bind_some, chk_T l2, Option.bind_some]
  exact ⟨⟨v0, v1, v2⟩, rfl, l0, l1, l2, by unfold Num; simp only [l0]; exact n0, by unfold Num; simp only [l1]; exact n1, by unfold Num; simp only [l2]; exact n2⟩
theorem F56_p {a : List Int} (ha : a.length < 140737488355328) : ∀ (m i n : Nat) (k : Int), i + m = a.length → m < n → 0 ≤ k → k + m < 4611686018427387904 → (∀ j, j < m → a.getD (i + j) 0 = k + j) → F56.p0 N a n k (i : Int) = some (.inr (k + m))
  | 0, i, n + 1, k, h, _, _, _, _ => by
    rw [F56.p0, lt_F (by omega), cond_false]
    simp
  | m + 1, i, n + 1, k, h, hn, h0, h1, hk => by
    have hi : i < a.length := by omega
    have e0 := hk 0 (by omega)
    rw [F56.p0, lt_T hi, cond_true, idx_nat hi, Option.bind_some, decide_eq_true (by simpa using e0), Bool.not_true, cond_false, w64_nat (by omega), w64_id (by omega) (by omega)]
    rw [F56_p ha m (i + 1) n (k + 1) (by omega) (by omega) (by omega) (by omega) (fun j hj => by have := hk (j + 1) (by omega); rw [show i + 1 + j = i + (j + 1) from by omega, this]; omega)]
    congr 2
    omega
theorem F56_fn (hN : 140737488355328 ≤ N) {a : List Int} {k : Int} (hb : a.length ≤ 1048576) (h0 : 0 ≤ k) (h1 : k ≤ 20000000) (hk : Num k a) : F56.fn N a k = some (k + a.length) := by
  have : F56.p0 N a N k (0 : Int) = some (.inr (k + a.length)) := F56_p (N := N) (by omega) a.length 0 N k (by omega) (by omega) h0 (by omega) (fun j hj => by rw [Nat.zero_add]; exact hk j hj)
  rw [F56.fn, this, Option.bind_some]
  rfl
theorem F37_fn (hN : 140737488355328 ≤ N) {a : T44} {k : Int} (b0 : a.f0.length ≤ 1048576) (b1 : a.f1.length ≤ 1048576) (b2 : a.f2.length ≤ 1048576) (h0 : 0 ≤ k) (h1 : k ≤ 10000000) (n0 : Num k a.f0) (n1 : Num (k + a.f0.length) a.f1) (n2 : Num (k + a.f0.length + a.f1.length) a.f2) : F37.fn N a k = some (k + a.f0.length + a.f1.length + a.f2.length) := by
  rw [F37.fn, F56_fn hN b0 h0 (by omega) n0, Option.bind_some, decide_eq_false (by omega), cond_false, F56_fn hN b1 (by omega) (by omega) n1, Option.bind_some, decide_eq_false (by omega), cond_false, F56_fn hN b2 (by omega) (by omega) n2, Option.bind_some, decide_eq_false (by omega), cond_false]
end Go.Eng
set_option linter.unusedVariables false
set_option linter.unusedSimpArgs false
namespace Go.Eng
variable {N : Nat}
theorem cond_some {α : Type} {b : Bool} {x y : α} : cond b (some x) (some y) = some (cond b x y) := by cases b <;> rfl
theorem cond_pair {α β : Type} {b : Bool} {x y : α} {u v : β} : cond b (x, u) (y, v) = (cond b x y, cond b u v) := by cases b <;> rfl
theorem cond_id {α : Type} {b : Bool} {x : α} : cond b x x = x := by cases b <;> rfl
theorem cond_iff {b c d : Bool} : (cond b c d = true) ↔ (b = true ∧ c = true) ∨ (¬ b = true ∧ d = true) := by cases b <;> simp
theorem F151_fn {n l h : Int} : F151.fn N n l h = some (decide (l ≤ n ∧ n ≤ h)) := by
  rw [F151.fn, cond_some]
  congr 1
  rw [Bool.eq_iff_iff, cond_iff]
  simp only [decide_eq_true_eq, ge_iff_le, Bool.false_eq_true, and_false, or_false]
theorem F97_fn {n l h : Int} : F97.fn N n l h = some (decide (l ≤ n ∧ n ≤ h)) := by
  rw [F97.fn, cond_some]
  congr 1
  rw [Bool.eq_iff_iff, cond_iff]
  simp only [decide_eq_true_eq, ge_iff_le, Bool.false_eq_true, and_false, or_false]
theorem F212_fn {n : Int} : F212.fn N n = some (decide (0 ≤ n ∧ n ≤ 11)) := by rw [F212.fn, F151_fn, Option.bind_some]
theorem F205_fn {n : Int} : F205.fn N n = some (decide (0 ≤ n ∧ n ≤ 65535)) := by rw [F205.fn, F97_fn, Option.bind_some]
/-- A good simple step of twelve names. -/
def Flat1 (x : T131) : Prop :=
  (x.f0 = 1 ∧ x.f1 = 0 ∧ (0 ≤ x.f2 ∧ x.f2 ≤ 11) ∧ x.f3 = 0 ∧ x.f4 = 0 ∧ 0 ≤ x.f5 ∧ x.f5 ≤ 65535) ∨
  ((x.f0 = 2 ∨ x.f0 = 4) ∧ x.f1 = 0 ∧ (0 ≤ x.f2 ∧ x.f2 ≤ 11) ∧ (0 ≤ x.f3 ∧ x.f3 ≤ 11) ∧ x.f4 = 0 ∧ x.f5 = 0) ∨
  (x.f0 = 3 ∧ (4 ≤ x.f1 ∧ x.f1 ≤ 9) ∧ (0 ≤ x.f2 ∧ x.f2 ≤ 11) ∧ (0 ≤ x.f3 ∧ x.f3 ≤ 11) ∧ (0 ≤ x.f4 ∧ x.f4 ≤ 11) ∧ x.f5 = 0) ∨
  (x.f0 = 5 ∧ x.f1 = 0 ∧ x.f2 = 0 ∧ (0 ≤ x.f3 ∧ x.f3 ≤ 11) ∧ (0 ≤ x.f4 ∧ x.f4 ≤ 11) ∧ x.f5 = 0) ∨
  (x.f0 = 6 ∧ x.f1 = 0 ∧ x.f2 = 0 ∧ (0 ≤ x.f3 ∧ x.f3 ≤ 11) ∧ x.f4 = 0 ∧ x.f5 = 0)
instance (x : T131) : Decidable (Flat1 x) := by unfold Flat1; infer_instance
theorem op_cases (n : Int) : n = 1 ∨ n = 2 ∨ n = 4 ∨ n = 3 ∨ n = 5 ∨ n = 6 ∨ (n ≠ 1 ∧ n ≠ 2 ∧ n ≠ 4 ∧ n ≠ 3 ∧ n ≠ 5 ∧ n ≠ 6) := by omega
theorem F169_fn {x : T131} : F169.fn N x = some (decide (Flat1 x)) := by
  simp only [F169.fn, F169.p0, F169.p1, F169.p2, F169.p3, F169.p4, F169.p5, F212_fn, F151_fn, Option.bind_some, cond_some]
  rw [Option.some.injEq, Bool.eq_iff_iff, decide_eq_true_iff]
  unfold Flat1
  rcases op_cases x.f0 with h | h | h | h | h | h | ⟨h1, h2, h3, h4, h5, h6⟩
  all_goals
    first
    | simp only [h, Int.reduceEq, decide_true, decide_false, cond_true, cond_false, Bool.not_true, Bool.not_false]
    | simp only [h1, h2, h3, h4, h5, h6, Int.reduceEq, decide_true, decide_false, cond_true, cond_false, Bool.not_true, Bool.not_false]
    simp only [cond_iff, Bool.not_eq_true', decide_eq_false_iff_not, decide_eq_true_eq, Bool.true_eq_false, Bool.false_eq_true, and_false, false_and, or_false, false_or, and_true, true_and, not_or, not_and, Decidable.not_not, not_false_eq_true, not_true_eq_false, or_true, true_or]
    first | done | omega
theorem F258_fn {has : Bool} {n c : Int} : F258.fn N has n c = some (cond has (decide (0 ≤ n ∧ n ≤ w64 (c - 1))) (decide (n = 0)), c) := by
  cases has <;> simp [F258.fn, F97_fn]
  by_cases h : n = 0 <;> simp [h]
theorem F217_fn {x : T131} : F217.fn N x 12 = some (decide (Flat1 x)) := by
  have e : w64 (12 - 1) = 11 := by rw [w64_id] <;> omega
  have hop : x.f0 = 1 ∨ x.f0 = 2 ∨ x.f0 = 4 ∨ x.f0 = 3 ∨ x.f0 = 5 ∨ x.f0 = 6 ∨ (x.f0 ≠ 1 ∧ x.f0 ≠ 2 ∧ x.f0 ≠ 4 ∧ x.f0 ≠ 3 ∧ x.f0 ≠ 5 ∧ x.f0 ≠ 6) := by omega
  simp only [F217.fn, F220.fn, F220.p0, F243.fn, F97_fn, F205_fn, Option.bind_some, F217.p0, F258_fn, e]
  rcases hop with h | h | h | h | h | h | ⟨h1, h2, h3, h4, h5, h6⟩
  all_goals
    first
    | simp only [h, Int.reduceEq, decide_true, decide_false, cond_true, cond_false, Option.bind_some, Bool.not_true, Bool.not_false, cond_some]
    | simp only [h1, h2, h3, h4, h5, h6, Int.reduceEq, decide_true, decide_false, cond_true, cond_false, Option.bind_some, Bool.not_true, Bool.not_false, cond_some]
    rw [Option.some.injEq, Bool.eq_iff_iff, decide_eq_true_iff]
    unfold Flat1
    first
    | simp only [h, Int.reduceEq]
    | simp only [h1, h2, h3, h4, h5, h6, Int.reduceEq]
    simp only [cond_iff, Bool.not_eq_true', decide_eq_false_iff_not, decide_eq_true_eq, Bool.true_eq_false, Bool.false_eq_true, and_false, false_and, or_false, false_or, and_true, true_and, not_or, not_and, Decidable.not_not, not_false_eq_true, not_true_eq_false, or_true, true_or]
    first | done | omega
end Go.Eng
set_option linter.unusedVariables false
set_option linter.unusedSimpArgs false
namespace Go.Eng
variable {N : Nat}
def gF (x : T131) : Bool := decide (Flat1 x)
def gW (n : Int) : Bool := decide (0 ≤ n ∧ n ≤ 65535)
def gN (m n : Int) : Bool := decide (0 ≤ n ∧ n < m)
/-! words -/
theorem F135_p {l1 : List Int} {many : Int} {v : List Int} (hv : v.length < 140737488355328) : ∀ (t : List Int) (k n : Nat), v.drop k = t → k ≤ v.length → t.length < n → F135.p0 N l1 many v (v.length : Int) n (k : Int) = some (cond (t.all gW) (.inr ()) (.inl ()))
  | [], k, n + 1, h, hk, _ => by
    obtain rfl := drop_nil_F h hk
    rw [F135.p0, lt_F (Nat.le_refl _), cond_false]
    rfl
  | x :: t, k, n + 1, h, hk, hn => by
    obtain ⟨h1, h2, h3⟩ := drop_cons_F (d := 0) h
    rw [F135.p0, lt_T h1, cond_true, idx_nat h1, Option.bind_some, F151_fn, Option.bind_some, h2, w64_nat (by omega), List.all_cons]
    by_cases g : 0 ≤ x ∧ x ≤ 65535
    · rw [decide_eq_true g, Bool.not_true, cond_false, show gW x = true from decide_eq_true g, Bool.true_and]
      exact F135_p hv t (k + 1) n h3 (by omega) (by simpa using hn)
    · rw [decide_eq_false g, Bool.not_false, cond_true, show gW x = false from decide_eq_false g, Bool.false_and, cond_false]
theorem F135_fn (hN : 140737488355328 ≤ N) {l : List Int} {many : Int} (hb : l.length < 140737488355328) : F135.fn N l many = some (l.all gW && decide ((l.length : Int) = many)) := by
  have : F135.p0 N l many l (l.length : Int) N (0 : Int) = _ := F135_p (N := N) hb l 0 N rfl (Nat.zero_le _) (by omega)
  rw [F135.fn, this, Option.bind_some]
  cases l.all gW <;> rfl
theorem F251_204_p {v : List Int} (hv : v.length < 140737488355328) : ∀ (t : List Int) (k n : Nat), v.drop k = t → k ≤ v.length → t.length < n → ∃ r, F251_204.p0 N v (v.length : Int) n (k : Int) = some r ∧ (t.all gW = true → r = .inr ()) ∧ (t.all gW = false → ∃ j : Nat, r = .inl (j : Int))
  | [], k, n + 1, h, hk, _ => by
    obtain rfl := drop_nil_F h hk
    exact ⟨.inr (), by rw [F251_204.p0, lt_F (Nat.le_refl _), cond_false], fun _ => rfl, fun h => by cases h⟩
  | x :: t, k, n + 1, h, hk, hn => by
    obtain ⟨h1, h2, h3⟩ := drop_cons_F (d := 0) h
    rw [F251_204.p0, lt_T h1, cond_true, idx_nat h1, Option.bind_some, F204.fn, F205_fn, Option.bind_some, Option.bind_some, h2, w64_nat (by omega), List.all_cons]
    by_cases g : 0 ≤ x ∧ x ≤ 65535
    · rw [decide_eq_true g, Bool.not_true, cond_false, show gW x = true from decide_eq_true g, Bool.true_and]
      exact F251_204_p hv t (k + 1) n h3 (by omega) (by simpa using hn)
    · rw [decide_eq_false g, Bool.not_false, cond_true, show gW x = false from decide_eq_false g, Bool.false_and]
      exact ⟨_, rfl, (fun h => by cases h), fun _ => ⟨k, rfl⟩⟩
theorem F134_fn (hN : 140737488355328 ≤ N) {l : List Int} (hb : l.length < 140737488355328) : F134.fn N l = some (l.all gW) := by
  obtain ⟨r, e, h1, h2⟩ := F251_204_p (N := N) hb l 0 N rfl (Nat.zero_le _) (by omega)
  have e : F251_204.p0 N l (l.length : Int) N (0 : Int) = some r := e
  rw [F134.fn, F203_204.fn, F251_204.fn, e, Option.bind_some]
  cases g : l.all gW with
  | true => rw [h1 g]; rfl
  | false =>
    obtain ⟨j, rfl⟩ := h2 g
    simp only [Sum.elim_inl, Option.bind_some]
    rw [decide_eq_true (by omega), Bool.not_true]
def gS (s : T44) : Bool := s.f0.all gW && decide ((s.f0.length : Int) = 8) && (s.f1.all gW && decide ((s.f1.length : Int) = 16)) && decide ((s.f2.length : Int) ≤ 100) && s.f2.all gW
theorem F71_fn (hN : 140737488355328 ≤ N) {s : T44} (h0 : s.f0.length < 140737488355328) (h1 : s.f1.length < 140737488355328) (h2 : s.f2.length < 140737488355328) : F71.fn N s = some (gS s) := by
  rw [F71.fn, F135_fn hN h0, Option.bind_some, F135_fn hN h1, Option.bind_some, F135_fn hN h2, Option.bind_some, decide_eq_true rfl]
  unfold gS
  generalize (s.f0.all gW && decide ((s.f0.length : Int) = 8)) = a
  generalize (s.f1.all gW && decide ((s.f1.length : Int) = 16)) = b
  generalize decide ((s.f2.length : Int) ≤ 100) = c
  generalize s.f2.all gW = d
  cases a <;> cases b <;> cases c <;> cases d <;> rfl
theorem F70_fn (hN : 140737488355328 ≤ N) {s : T44} (h0 : s.f0.length < 140737488355328) (h1 : s.f1.length < 140737488355328) (h2 : s.f2.length < 140737488355328) : F70.fn N s = some (gS s) := by
  rw [F70.fn, F134_fn hN h0, Option.bind_some, F134_fn hN h1, Option.bind_some, F134_fn hN h2, Option.bind_some]
  unfold gS
  generalize s.f0.all gW = a0
  generalize decide ((s.f0.length : Int) = 8) = a1
  generalize s.f1.all gW = b0
  generalize decide ((s.f1.length : Int) = 16) = b1
  generalize decide ((s.f2.length : Int) ≤ 100) = c
  generalize s.f2.all gW = d
  cases a0 <;> cases a1 <;> cases b0 <;> cases b1 <;> cases c <;> cases d <;> rfl
/-! blocks -/
theorem F150_p0 {many : Int} {b2 : List T131} {b3 b4 : Int} {b5 : List Int} {v : List T131} (hv : v.length < 140737488355328) : ∀ (t : List T131) (k n : Nat), v.drop k = t → k ≤ v.length → t.length < n → F150.p0 N many b2 b3 b4 b5 v (v.length : Int) n (k : Int) = some (cond (t.all gF) (.inr ()) (.inl ()))
  | [], k, n + 1, h, hk, _ => by
    obtain rfl := drop_nil_F h hk
    rw [F150.p0, lt_F (Nat.le_refl _), cond_false]
    rfl
  | x :: t, k, n + 1, h, hk, hn => by
    obtain ⟨h1, h2, h3⟩ := drop_cons_F (d := default) h
    rw [F150.p0, lt_T h1, cond_true, idx_nat h1, Option.bind_some, F169_fn, Option.bind_some, h2, w64_nat (by omega), List.all_cons]
    show cond (!gF x) _ _ = _
    cases gF x
    · rfl
    · exact F150_p0 hv t (k + 1) n h3 (by omega) (by simpa using hn)
theorem F150_p1 {many : Int} {b2 : List T131} {b3 b4 : Int} {b5 : List Int} {v : List Int} (hv : v.length < 140737488355328) : ∀ (t : List Int) (k n : Nat), v.drop k = t → k ≤ v.length → t.length < n → F150.p1 N many b2 b3 b4 b5 v (v.length : Int) n (k : Int) = some (cond (t.all (gN many)) (.inr ()) (.inl ()))
  | [], k, n + 1, h, hk, _ => by
    obtain rfl := drop_nil_F h hk
    rw [F150.p1, lt_F (Nat.le_refl _), cond_false]
    rfl
  | x :: t, k, n + 1, h, hk, hn => by
    obtain ⟨h1, h2, h3⟩ := drop_cons_F (d := 0) h
    rw [F150.p1, lt_T h1, cond_true, idx_nat h1, Option.bind_some, h2, w64_nat (by omega), List.all_cons]
    by_cases g : x < 0
    · rw [decide_eq_true g, cond_true, show gN many x = false from decide_eq_false (by omega)]
      rfl
    · rw [decide_eq_false g, cond_false]
      by_cases g2 : x ≥ many
      · rw [decide_eq_true g2, cond_true, show gN many x = false from decide_eq_false (by omega)]
        rfl
      · rw [decide_eq_false g2, cond_false, show gN many x = true from decide_eq_true (by omega)]
        exact F150_p1 hv t (k + 1) n h3 (by omega) (by simpa using hn)
/-- How a good block goes on. -/
def Go1 (b : T115) : Prop := (b.f1 = 1 ∧ (b.f3.length : Int) = 1 ∧ b.f2 = 0) ∨ (b.f1 = 2 ∧ (b.f3.length : Int) = 2 ∧ 0 ≤ b.f2 ∧ b.f2 ≤ 11) ∨ (b.f1 = 5 ∧ (2 ≤ (b.f3.length : Int) ∧ (b.f3.length : Int) ≤ 6) ∧ 0 ≤ b.f2 ∧ b.f2 ≤ 11) ∨ ((b.f1 = 3 ∨ b.f1 = 4) ∧ (b.f3.length : Int) = 0 ∧ b.f2 = 0)
instance (b : T115) : Decidable (Go1 b) := by unfold Go1; infer_instance
def gB (many : Int) (b : T115) : Bool := b.f0.all gF && b.f3.all (gN many) && (decide (Go1 b) && decide ((b.f0.length : Int) ≤ 60))
theorem go_cases (n : Int) : n = 1 ∨ n = 2 ∨ n = 5 ∨ n = 3 ∨ n = 4 ∨ (n ≠ 1 ∧ n ≠ 2 ∧ n ≠ 5 ∧ n ≠ 3 ∧ n ≠ 4) := by omega
theorem F150_fn (hN : 140737488355328 ≤ N) {b : T115} {many : Int} (h : T115.ok b) : F150.fn N b many = some (gB many b) := by
  have h0 := big_of_isL h.1 (by decide)
  have h3 := big_of_isL h.2.2.2 (by decide)
  have e0 : F150.p0 N many b.f0 b.f1 b.f2 b.f3 b.f0 (b.f0.length : Int) N (0 : Int) = _ := F150_p0 (N := N) h0 b.f0 0 N rfl (Nat.zero_le _) (by omega)
  have e1 : F150.p1 N many b.f0 b.f1 b.f2 b.f3 b.f3 (b.f3.length : Int) N (0 : Int) = _ := F150_p1 (N := N) h3 b.f3 0 N rfl (Nat.zero_le _) (by omega)
  rw [F150.fn, e0, Option.bind_some, e1, Option.bind_some]
  unfold gB
  cases b.f0.all gF
  · rfl
  · cases b.f3.all (gN many)
    · rfl
    · simp only [cond_true, Sum.elim_inr, Bool.true_and, F150.p2, F150.p3, F150.p4, F212_fn, F151_fn, Option.bind_some, cond_some]
      rw [Option.some.injEq, Bool.eq_iff_iff, Bool.and_eq_true, decide_eq_true_iff, decide_eq_true_iff]
      unfold Go1
      rcases go_cases b.f1 with h | h | h | h | h | ⟨h1, h2, h3, h4, h5⟩
      all_goals
        first
        | simp only [h, Int.reduceEq, Int.reduceLE, decide_true, decide_false, cond_true, cond_false, Bool.not_true, Bool.not_false]
        | simp only [h1, h2, h3, h4, h5, Int.reduceEq, decide_true, decide_false, cond_true, cond_false, Bool.not_true, Bool.not_false]
        simp only [cond_iff, Bool.not_eq_true', decide_eq_false_iff_not, decide_eq_true_eq, Bool.true_eq_false, Bool.false_eq_true, and_false, false_and, or_false, false_or, and_true, true_and, not_or, not_and, Decidable.not_not, not_false_eq_true, not_true_eq_false, or_true, true_or]
        first | done | omega | (rw [iff_false]; omega)
end Go.Eng
set_option linter.unusedVariables false
set_option linter.unusedSimpArgs false
namespace Go.Eng
variable {N : Nat}
/-! the same, as the program asks it -/
theorem F216_fn {x : T131} : F216.fn N x 12 = some (!gF x, 12) := by rw [F216.fn, F217_fn, Option.bind_some]; rfl
theorem F257_p {v : List T131} (hv : v.length < 140737488355328) : ∀ (t : List T131) (k n : Nat), v.drop k = t → k ≤ v.length → t.length < n → ∃ r, F257_216.p0 N v (v.length : Int) n 12 (k : Int) = some r ∧ (t.all gF = true → r = .inr 12) ∧ (t.all gF = false → ∃ j : Nat, r = .inl (12, (j : Int)))
  | [], k, n + 1, h, hk, _ => by
    obtain rfl := drop_nil_F h hk
    exact ⟨.inr 12, by rw [F257_216.p0, lt_F (Nat.le_refl _), cond_false], fun _ => rfl, fun h => by cases h⟩
  | x :: t, k, n + 1, h, hk, hn => by
    obtain ⟨h1, h2, h3⟩ := drop_cons_F (d := default) h
    rw [F257_216.p0, lt_T h1, cond_true, idx_nat h1, Option.bind_some, h2, F216_fn, Option.bind_some, w64_nat (by omega), List.all_cons]
    simp only
    cases gF x with
    | true => exact F257_p hv t (k + 1) n h3 (by omega) (by simpa using hn)
    | false => exact ⟨_, rfl, (fun h => by cases h), fun _ => ⟨k, rfl⟩⟩
theorem F215_fn (hN : 140737488355328 ≤ N) {l : List T131} (hb : l.length < 140737488355328) : F215_216.fn N l 12 = some (!l.all gF, 12) := by
  obtain ⟨r, e, h1, h2⟩ := F257_p (N := N) hb l 0 N rfl (Nat.zero_le _) (by omega)
  have e : F257_216.p0 N l (l.length : Int) N 12 (0 : Int) = some r := e
  rw [F215_216.fn, F257_216.fn, e, Option.bind_some]
  cases g : l.all gF with
  | true => rw [h1 g]; rfl
  | false =>
    obtain ⟨j, rfl⟩ := h2 g
    simp only [Sum.elim_inl, Option.bind_some]
    rw [decide_eq_true (by omega)]
    rfl
theorem F156_fn (hN : 140737488355328 ≤ N) {l : List T131} (hb : l.length < 140737488355328) : F156.fn N l 12 = some (decide ((l.length : Int) ≤ 60) && l.all gF) := by
  rw [F156.fn, F215_fn hN hb, Option.bind_some, cond_some, Bool.not_not]
  cases decide ((l.length : Int) ≤ 60) <;> rfl
theorem F219_fn {m k : Int} (h0 : 0 ≤ m) (h1 : m < 140737488355328) : F219.fn N k m = some (!gN m k, m) := by
  rw [F219.fn, F97_fn, Option.bind_some, w64_id (by omega) (by omega)]
  congr 3
  unfold gN
  rw [decide_eq_decide]
  omega
theorem F251_219_p {m : Int} (h0 : 0 ≤ m) (h1 : m < 140737488355328) {v : List Int} (hv : v.length < 140737488355328) : ∀ (t : List Int) (k n : Nat), v.drop k = t → k ≤ v.length → t.length < n → ∃ r, F251_219.p0 N v (v.length : Int) n m (k : Int) = some r ∧ (t.all (gN m) = true → r = .inr m) ∧ (t.all (gN m) = false → ∃ j : Nat, r = .inl (m, (j : Int)))
  | [], k, n + 1, h, hk, _ => by
    obtain rfl := drop_nil_F h hk
    exact ⟨.inr m, by rw [F251_219.p0, lt_F (Nat.le_refl _), cond_false], fun _ => rfl, fun h => by cases h⟩
  | x :: t, k, n + 1, h, hk, hn => by
    obtain ⟨g1, g2, g3⟩ := drop_cons_F (d := 0) h
    rw [F251_219.p0, lt_T g1, cond_true, idx_nat g1, Option.bind_some, g2, F219_fn h0 h1, Option.bind_some, w64_nat (by omega), List.all_cons]
    simp only
    cases gN m x with
    | true => exact F251_219_p h0 h1 hv t (k + 1) n g3 (by omega) (by simpa using hn)
    | false => exact ⟨_, rfl, (fun h => by cases h), fun _ => ⟨k, rfl⟩⟩
theorem F203_219_fn (hN : 140737488355328 ≤ N) {m : Int} (h0 : 0 ≤ m) (h1 : m < 140737488355328) {l : List Int} (hb : l.length < 140737488355328) : F203_219.fn N l m = some (!l.all (gN m), m) := by
  obtain ⟨r, e, k1, k2⟩ := F251_219_p (N := N) h0 h1 hb l 0 N rfl (Nat.zero_le _) (by omega)
  have e : F251_219.p0 N l (l.length : Int) N m (0 : Int) = some r := e
  rw [F203_219.fn, F251_219.fn, e, Option.bind_some]
  cases g : l.all (gN m) with
  | true => rw [k1 g]; rfl
  | false =>
    obtain ⟨j, rfl⟩ := k2 g
    simp only [Sum.elim_inl, Option.bind_some]
    rw [decide_eq_true (by omega)]
    rfl
theorem F157_fn (hN : 140737488355328 ≤ N) {m : Int} (h0 : 0 ≤ m) (h1 : m < 140737488355328) {b : T115} (hb : b.f3.length < 140737488355328) : F157.fn N b.f1 b.f2 b.f3 12 m = some (b.f3.all (gN m) && decide (Go1 b)) := by
  have e : w64 (12 - 1) = 11 := by rw [w64_id] <;> omega
  rw [F157.fn, F203_219_fn hN h0 h1 hb]
  simp only [F157.p0, F218.fn, F97_fn, Option.bind_some, e, cond_some]
  cases b.f3.all (gN m)
  · simp [cond_id]
  · simp only [Bool.not_true, cond_false, Bool.true_and]
    rw [Option.some.injEq, Bool.eq_iff_iff, decide_eq_true_iff]
    unfold Go1
    rcases go_cases b.f1 with h | h | h | h | h | ⟨h1, h2, h3, h4, h5⟩
    all_goals
      first
      | simp only [h, Int.reduceEq, Int.reduceLE, decide_true, decide_false, cond_true, cond_false, Bool.not_true, Bool.not_false]
      | simp only [h1, h2, h3, h4, h5, Int.reduceEq, decide_true, decide_false, cond_true, cond_false, Bool.not_true, Bool.not_false]
      simp only [cond_iff, Bool.not_eq_true', decide_eq_false_iff_not, decide_eq_true_eq, Bool.true_eq_false, Bool.false_eq_true, and_false, false_and, or_false, false_or, and_true, true_and, not_or, not_and, Decidable.not_not, not_false_eq_true, not_true_eq_false, or_true, true_or]
      first | done | omega | (rw [iff_false]; omega)
theorem F155i_fn (hN : 140737488355328 ≤ N) {b : T115} {c : List T115} (h : T115.ok b) (hc : c.length < 140737488355328) : F155i.fn N b c = some (!gB (c.length : Int) b, c) := by
  rw [F155i.fn, F156_fn hN (big_of_isL h.1 (by decide)), Option.bind_some, F157_fn hN (by omega) (by omega) (big_of_isL h.2.2.2 (by decide)), Option.bind_some]
  unfold gB
  cases decide ((b.f0.length : Int) ≤ 60) <;> cases b.f0.all gF <;> cases b.f3.all (gN (c.length : Int)) <;> cases decide (Go1 b) <;> rfl
def gG (f : List T115) : Bool := f.all (gB (f.length : Int)) && decide (1 ≤ (f.length : Int) ∧ (f.length : Int) ≤ 64)
theorem F91_p (hN : 140737488355328 ≤ N) {f v : List T115} (hf : f.length < 140737488355328) (hv : v.length < 140737488355328) (ho : ∀ x ∈ v, T115.ok x) : ∀ (t : List T115) (k n : Nat), v.drop k = t → k ≤ v.length → t.length < n → F91.p0 N f v (v.length : Int) n (k : Int) = some (cond (t.all (gB (f.length : Int))) (.inr ()) (.inl ()))
  | [], k, n + 1, h, hk, _ => by
    obtain rfl := drop_nil_F h hk
    rw [F91.p0, lt_F (Nat.le_refl _), cond_false]
    rfl
  | x :: t, k, n + 1, h, hk, hn => by
    obtain ⟨h1, h2, h3⟩ := drop_cons_F (d := default) h
    rw [F91.p0, lt_T h1, cond_true, idx_nat h1, Option.bind_some, h2, F150_fn hN (ho x (List.mem_of_mem_drop (h ▸ List.mem_cons_self))), Option.bind_some, w64_nat (by omega), List.all_cons]
    cases gB (f.length : Int) x
    · rfl
    · exact F91_p hN hf hv ho t (k + 1) n h3 (by omega) (by simpa using hn)
theorem F91_fn (hN : 140737488355328 ≤ N) {f : List T115} (h : isL 64 T115.ok f) : F91.fn N f = some (gG f) := by
  have hb := big_of_isL h (by decide)
  have e : F91.p0 N f f (f.length : Int) N (0 : Int) = _ := F91_p hN hb hb h.2 f 0 N rfl (Nat.zero_le _) (by omega)
  rw [F91.fn, e, Option.bind_some, F151_fn, Option.bind_some]
  unfold gG
  cases f.all (gB (f.length : Int)) <;> rfl
theorem F214_p (hN : 140737488355328 ≤ N) {c v : List T115} (hc : c.length < 140737488355328) (hv : v.length < 140737488355328) (ho : ∀ x ∈ v, T115.ok x) : ∀ (t : List T115) (k n : Nat), v.drop k = t → k ≤ v.length → t.length < n → ∃ r, F214_155i.p0 N v (v.length : Int) n c (k : Int) = some r ∧ (t.all (gB (c.length : Int)) = true → r = .inr c) ∧ (t.all (gB (c.length : Int)) = false → ∃ j : Nat, r = .inl (c, (j : Int)))
  | [], k, n + 1, h, hk, _ => by
    obtain rfl := drop_nil_F h hk
    exact ⟨.inr c, by rw [F214_155i.p0, lt_F (Nat.le_refl _), cond_false], fun _ => rfl, fun h => by cases h⟩
  | x :: t, k, n + 1, h, hk, hn => by
    obtain ⟨g1, g2, g3⟩ := drop_cons_F (d := default) h
    rw [F214_155i.p0, lt_T g1, cond_true, idx_nat g1, Option.bind_some, g2, F155i_fn hN (ho x (List.mem_of_mem_drop (h ▸ List.mem_cons_self))) hc, Option.bind_some, w64_nat (by omega), List.all_cons]
    simp only
    cases gB (c.length : Int) x with
    | true => exact F214_p hN hc hv ho t (k + 1) n g3 (by omega) (by simpa using hn)
    | false => exact ⟨_, rfl, (fun h => by cases h), fun _ => ⟨k, rfl⟩⟩
theorem F96_fn (hN : 140737488355328 ≤ N) {f : List T115} (h : isL 64 T115.ok f) : F96.fn N f = some (gG f) := by
  have hb := big_of_isL h (by decide)
  obtain ⟨r, e, k1, k2⟩ := F214_p hN hb hb h.2 f 0 N rfl (Nat.zero_le _) (by omega)
  have e : F214_155i.p0 N f (f.length : Int) N f (0 : Int) = some r := e
  rw [F96.fn, F97_fn, Option.bind_some, F154_155i.fn, F214_155i.fn, e, Option.bind_some]
  unfold gG
  cases g : f.all (gB (f.length : Int)) with
  | true =>
    rw [k1 g]
    cases decide (1 ≤ (f.length : Int) ∧ (f.length : Int) ≤ 64) <;> rfl
  | false =>
    obtain ⟨j, rfl⟩ := k2 g
    simp only [Sum.elim_inl, Option.bind_some]
    rw [decide_eq_true (p := (j : Int) ≥ 0) (by omega)]
    cases decide (1 ≤ (f.length : Int) ∧ (f.length : Int) ≤ 64) <;> rfl
end Go.Eng
set_option linter.unusedVariables false
set_option linter.unusedSimpArgs false
namespace Go.Eng
variable {N : Nat}
theorem idx_of {i : Int} {n : Nat} (h0 : 0 ≤ i) (h1 : i < n) : ∃ j : Nat, idx i n = some j ∧ j < n ∧ i = j := ⟨i.toNat, by unfold idx; rw [if_pos ⟨h0, h1⟩], by omega, by omega⟩
theorem word_iff {n : Int} : gW n = true ↔ 0 ≤ n ∧ n ≤ 65535 := by unfold gW; rw [decide_eq_true_iff]
theorem word_get {l : List Int} (h : l.all gW = true) (j : Nat) : gW (l.getD j 0) = true := by
  rw [List.getD]
  cases g : l[j]? with
  | none => rfl
  | some x => exact List.all_eq_true.1 h x (List.mem_of_getElem? g)
theorem word_set {l : List Int} (h : l.all gW = true) {j : Nat} {x : Int} (hx : gW x = true) : (l.set j x).all gW = true := List.all_eq_true.2 fun y hy => by
  rcases List.mem_or_eq_of_mem_set hy with g | rfl
  · exact List.all_eq_true.1 h y g
  · exact hx
theorem word_and {a : Int} : gW (bitAnd .i64 a 65535) = true := by
  have h1 : (BitVec.ofInt 64 a &&& BitVec.ofInt 64 65535).toNat ≤ 65535 := by
    rw [BitVec.toNat_and]
    exact Nat.le_trans Nat.and_le_right (by decide)
  have h2 : bitAnd .i64 a 65535 = w64 ((BitVec.ofInt 64 a &&& BitVec.ofInt 64 65535).toNat : Int) := rfl
  rw [h2, w64_id (by omega) (by omega), word_iff]
  omega
theorem word_div {a b : Int} (ha : gW a = true) (hb : gW b = true) (h : b ≠ 0) : gW (w64 (Int.tdiv a b)) = true := by
  rw [word_iff] at ha hb
  have h1 := Int.tdiv_nonneg ha.1 hb.1
  have h2 := Int.tdiv_le_self b ha.1
  rw [w64_id (by omega) (by omega), word_iff]
  omega
theorem F159_eq {o a b : Int} : F159.fn N o a b = F213.fn N o a b := rfl
theorem F213_fn {o a b : Int} (ha : gW a = true) (hb : gW b = true) : ∃ r k, F213.fn N o a b = some (r, k) ∧ gW r = true := by
  unfold F213.fn
  cases decide (o = 4)
  · cases decide (o = 5)
    · cases decide (o = 6)
      · cases decide (o = 7)
        · cases decide (o = 8)
          · cases decide (a = b)
            · exact ⟨_, _, rfl, rfl⟩
            · exact ⟨_, _, rfl, rfl⟩
          · cases decide (a < b)
            · exact ⟨_, _, rfl, rfl⟩
            · exact ⟨_, _, rfl, rfl⟩
        · by_cases h : b = 0
          · rw [decide_eq_true h]
            exact ⟨_, _, rfl, rfl⟩
          · rw [decide_eq_false h, chk_T h]
            exact ⟨_, _, rfl, word_div ha hb h⟩
      · exact ⟨_, _, rfl, word_and⟩
    · exact ⟨_, _, rfl, word_and⟩
  · exact ⟨_, _, rfl, word_and⟩
structure Inv (vars : List Int) (s : T44) : Prop where
  lv : vars.length = 12
  wv : vars.all gW = true
  lm : s.f1.length = 16
  wm : s.f1.all gW = true
  lt : s.f2.length ≤ 100
theorem Inv.set {vars : List Int} {s : T44} (h : Inv vars s) {j : Nat} {x : Int} (hx : gW x = true) : Inv (vars.set j x) s := ⟨by rw [List.length_set]; exact h.lv, word_set h.wv hx, h.lm, h.wm, h.lt⟩
/-- One simple step: both do the same. -/
theorem do_same {x : T131} {vars : List Int} {s : T44} (hx : Flat1 x) (h : Inv vars s) : ∃ k vars' s', F152.fn N x vars s = some (k, vars', s') ∧ F99.fn N s x vars = some (k, s', vars') ∧ Inv vars' s' ∧ s'.f0 = s.f0 := by
  have hn : ∀ i : Int, 0 ≤ i → i ≤ 11 → ∃ j : Nat, idx i vars.length = some j := fun i h0 h1 => by
    obtain ⟨j, e, _⟩ := idx_of (n := vars.length) h0 (by rw [h.lv]; omega)
    exact ⟨j, e⟩
  have hm : ∀ i : Int, 0 ≤ i → ¬ i ≥ 16 → ∃ j : Nat, idx i s.f1.length = some j := fun i h0 h1 => by
    obtain ⟨j, e, _⟩ := idx_of (n := s.f1.length) h0 (by rw [h.lm]; omega)
    exact ⟨j, e⟩
  unfold F152.fn F99.fn
  rcases hx with ⟨o, _, hd, _, _, hw⟩ | ⟨o, _, hd, ha, _, _⟩ | ⟨o, _, hd, ha, hb, _⟩ | ⟨o, _, _, ha, hb, _⟩ | ⟨o, _, _, ha, _, _⟩
  · obtain ⟨j, ej⟩ := hn _ hd.1 hd.2
    simp only [o, decide_true, cond_true, ej, Option.bind_some]
    exact ⟨_, _, _, rfl, rfl, h.set (word_iff.2 hw), rfl⟩
  · obtain ⟨j, ej⟩ := hn _ hd.1 hd.2
    obtain ⟨i, ei⟩ := hn _ ha.1 ha.2
    have wi := word_get h.wv i
    rcases o with o | o
    · simp only [o, Int.reduceEq, decide_true, decide_false, cond_true, cond_false, ej, ei, Option.bind_some]
      exact ⟨_, _, _, rfl, rfl, h.set wi, rfl⟩
    · simp only [o, Int.reduceEq, decide_true, decide_false, cond_true, cond_false, ej, ei, Option.bind_some, F160.fn]
      by_cases g : vars.getD i 0 ≥ 16
      · simp only [decide_eq_true g, cond_true, cond_false, Option.bind_some]
        exact ⟨_, _, _, rfl, rfl, h, rfl⟩
      · obtain ⟨m, em⟩ := hm _ (word_iff.1 wi).1 g
        simp only [decide_eq_false g, cond_false, cond_true, em, Option.bind_some]
        exact ⟨_, _, _, rfl, rfl, h.set (word_get h.wm m), rfl⟩
  · obtain ⟨j, ej⟩ := hn _ hd.1 hd.2
    obtain ⟨i, ei⟩ := hn _ ha.1 ha.2
    obtain ⟨l, el⟩ := hn _ hb.1 hb.2
    obtain ⟨r, k, er, hr⟩ := F213_fn (N := N) (o := x.f1) (word_get h.wv i) (word_get h.wv l)
    simp only [o, Int.reduceEq, decide_true, decide_false, cond_true, cond_false, ej, ei, el, Option.bind_some, F159_eq, er]
    cases k
    · exact ⟨_, _, _, rfl, rfl, h, rfl⟩
    · exact ⟨_, _, _, rfl, rfl, h.set hr, rfl⟩
  · obtain ⟨i, ei⟩ := hn _ ha.1 ha.2
    obtain ⟨l, el⟩ := hn _ hb.1 hb.2
    have wi := word_get h.wv i
    simp only [o, Int.reduceEq, decide_true, decide_false, cond_true, cond_false, ei, el, Option.bind_some, F161.fn]
    by_cases g : vars.getD i 0 ≥ 16
    · simp only [decide_eq_true g, cond_true, Option.bind_some]
      exact ⟨_, _, _, rfl, rfl, h, rfl⟩
    · obtain ⟨m, em⟩ := hm _ (word_iff.1 wi).1 g
      simp only [decide_eq_false g, cond_false, em, Option.bind_some]
      exact ⟨_, _, _, rfl, rfl, ⟨h.lv, h.wv, by rw [List.length_set]; exact h.lm, word_set h.wm (word_get h.wv l), h.lt⟩, rfl⟩
  · obtain ⟨i, ei⟩ := hn _ ha.1 ha.2
    simp only [o, Int.reduceEq, decide_true, decide_false, cond_true, cond_false, ei, Option.bind_some, F162.fn]
    by_cases g : (s.f2.length : Int) = 100
    · simp only [decide_eq_true g, cond_true, Option.bind_some]
      exact ⟨_, _, _, rfl, rfl, h, rfl⟩
    · have hl := h.lt
      rw [decide_eq_false g, cond_false, cond_false, chk_T (by omega)]
      exact ⟨_, _, _, rfl, rfl, ⟨h.lv, h.wv, h.lm, h.wm, by rw [List.length_append]; simp; omega⟩, rfl⟩
end Go.Eng
set_option linter.unusedVariables false
set_option linter.unusedSimpArgs false
namespace Go.Eng
variable {N : Nat}
theorem p1_skip {f : List T115} {fu : Int} {v4 v5 v6 : List Int} {n31 at33 : Int} {v : List T131} (hv : v.length < 140737488355328) {o0 o1 o2 vars : List Int} : ∀ (t : List T131) (k n : Nat), v.drop k = t → k ≤ v.length → t.length < n → F93.p1 N f fu v4 v5 v6 n31 at33 v (v.length : Int) n o0 o1 o2 vars 2 (k : Int) = some (o0, o1, o2, vars, 2)
  | [], k, n + 1, h, hk, _ => by
    obtain rfl := drop_nil_F h hk
    rw [F93.p1, lt_F (Nat.le_refl _), cond_false]
  | x :: t, k, n + 1, h, hk, hn => by
    obtain ⟨h1, h2, h3⟩ := drop_cons_F (d := default) h
    rw [F93.p1, lt_T h1, cond_true, idx_nat h1, Option.bind_some, w64_nat (by omega), decide_eq_false (by decide : ¬ (2 : Int) = 0), cond_false]
    exact p1_skip hv t (k + 1) n h3 (by omega) (by simpa using hn)
/-- A block's simple steps. -/
theorem block_same {f f' : List T115} {fu fu' : Int} {v4 v5 v6 v4' v5' v6' : List Int} {n31 at33 e61 d62 at63 b65 b66 : Int} {b64 : List T131} {b67 : List Int} {v : List T131} (hv : v.length < 140737488355328) (hf : v.all gF = true) : ∀ (t : List T131) (k n n' : Nat) (o0 o1 o2 vars : List Int), v.drop k = t → k ≤ v.length → t.length < n → t.length < n' → Inv vars ⟨o0, o1, o2⟩ → ∃ o1' o2' vars' e, F93.p1 N f fu v4 v5 v6 n31 at33 v (v.length : Int) n o0 o1 o2 vars 0 (k : Int) = some (o0, o1', o2', vars', e) ∧ F32.p3 N f' fu' v4' v5' v6' e61 d62 at63 b64 b65 b66 b67 v (v.length : Int) n' o0 o1 o2 vars (k : Int) = some (o0, o1', o2', vars', cond (decide (e = 0)) e61 2) ∧ (e = 0 ∨ e = 2) ∧ Inv vars' ⟨o0, o1', o2'⟩
  | [], k, n + 1, n' + 1, o0, o1, o2, vars, h, hk, _, _, hi => by
    obtain rfl := drop_nil_F h hk
    exact ⟨o1, o2, vars, 0, by rw [F93.p1, lt_F (Nat.le_refl _), cond_false], by rw [F32.p3, lt_F (Nat.le_refl _), cond_false]; rfl, .inl rfl, hi⟩
  | x :: t, k, n + 1, n' + 1, o0, o1, o2, vars, h, hk, hn, hn', hi => by
    obtain ⟨h1, h2, h3⟩ := drop_cons_F (d := default) h
    have hx : Flat1 x := by
      have := List.all_eq_true.1 hf x (List.mem_of_mem_drop (h ▸ List.mem_cons_self))
      exact of_decide_eq_true this
    obtain ⟨q, vars', s', e1, e2, hi', hs⟩ := do_same (N := N) hx hi
    obtain ⟨p0, p1, p2⟩ := s'
    simp only at hs
    subst hs
    rw [F93.p1, F32.p3, lt_T h1, cond_true, cond_true, idx_nat h1, Option.bind_some, Option.bind_some, h2, decide_eq_true rfl, cond_true, e1, Option.bind_some, e2, Option.bind_some, w64_nat (by omega)]
    simp only
    have hl : vars'.length = vars.length := by rw [hi'.lv, hi.lv]
    rw [chk_T hl, Option.bind_some, Option.bind_some]
    cases q
    · refine ⟨p1, p2, vars', 2, ?_, rfl, .inr rfl, hi'⟩
      exact p1_skip hv t (k + 1) n h3 (by omega) (by simpa using hn)
    · exact block_same hv hf t (k + 1) n n' p0 p1 p2 vars' h3 (by omega) (by simpa using hn) (by simpa using hn') hi'
/-- Where a good block goes. -/
theorem next_same {b : T115} {vars : List Int} {m : Int} (hb : gB m b = true) (hl : vars.length = 12) (hw : vars.all gW = true) : (b.f1 = 3 ∧ F153.fn N b vars = some (-1)) ∨ (b.f1 = 4 ∧ F153.fn N b vars = some (-2)) ∨ (b.f1 ≠ 3 ∧ b.f1 ≠ 4 ∧ ∃ (j i w : Nat), idx b.f2 vars.length = some j ∧ F100.fn N b.f1 (vars.getD j 0) (b.f3.length : Int) = some (w : Int) ∧ idx (w : Int) b.f3.length = some w ∧ F153.fn N b vars = some (b.f3.getD w 0) ∧ 0 ≤ b.f3.getD w 0 ∧ b.f3.getD w 0 < m) := by
  unfold gB at hb
  simp only [Bool.and_eq_true, decide_eq_true_eq] at hb
  obtain ⟨⟨_, hn⟩, hg, _⟩ := hb
  have get : ∀ w : Nat, w < b.f3.length → 0 ≤ b.f3.getD w 0 ∧ b.f3.getD w 0 < m := fun w hw => by
    rw [List.getD, List.getElem?_eq_getElem hw]
    have := List.all_eq_true.1 hn _ (List.getElem_mem hw)
    exact of_decide_eq_true this
  rcases hg with ⟨o, l, t⟩ | ⟨o, l, t⟩ | ⟨o, l, t⟩ | ⟨o | o, l, t⟩
  · refine .inr (.inr ⟨by omega, by omega, 0, 0, 0, by rw [t]; exact idx_nat (k := 0) (by omega), ?_, idx_nat (by omega), ?_, get 0 (by omega)⟩)
    · simp only [F100.fn, o, Int.reduceEq, decide_false, cond_false]; rfl
    · have : idx 0 b.f3.length = some 0 := idx_nat (k := 0) (by omega)
      simp only [F153.fn, o, decide_true, cond_true, this, Option.bind_some]
  · obtain ⟨j, ej, _⟩ := idx_of (n := vars.length) t.1 (by omega)
    have i0 : idx 0 b.f3.length = some 0 := idx_nat (k := 0) (by omega)
    have i1 : idx 1 b.f3.length = some 1 := idx_nat (k := 1) (by omega)
    by_cases g : vars.getD j 0 = 0
    · refine .inr (.inr ⟨by omega, by omega, j, 0, 1, ej, ?_, i1, ?_, get 1 (by omega)⟩)
      · simp only [F100.fn, F163.fn, o, g, decide_true, cond_true, Bool.not_true, cond_false, Option.bind_some]
        rw [w64_id] <;> simp
      · simp only [F153.fn, o, Int.reduceEq, decide_true, decide_false, cond_true, cond_false, ej, Option.bind_some, g, Bool.not_true, i1]
    · refine .inr (.inr ⟨by omega, by omega, j, 0, 0, ej, ?_, i0, ?_, get 0 (by omega)⟩)
      · simp only [F100.fn, F163.fn, o, decide_eq_false g, decide_true, cond_true, Bool.not_false, Option.bind_some]
        rw [w64_id] <;> simp
      · simp only [F153.fn, o, Int.reduceEq, decide_true, decide_false, cond_true, cond_false, ej, Option.bind_some, decide_eq_false g, Bool.not_false, i0]
  · obtain ⟨j, ej, _⟩ := idx_of (n := vars.length) t.1 (by omega)
    have wj := word_iff.1 (word_get hw j)
    have ew : w64 ((b.f3.length : Int) - 1) = (((b.f3.length - 1 : Nat)) : Int) := by rw [w64_id (by omega) (by omega)]; omega
    by_cases g : vars.getD j 0 ≥ (b.f3.length : Int)
    · have i1 : idx ((b.f3.length - 1 : Nat) : Int) b.f3.length = some (b.f3.length - 1) := idx_nat (by omega)
      refine .inr (.inr ⟨by omega, by omega, j, 0, b.f3.length - 1, ej, ?_, i1, ?_, get _ (by omega)⟩)
      · simp only [F100.fn, o, Int.reduceEq, decide_true, decide_false, cond_true, cond_false, ew]
        rw [if_pos (by omega)]
      · simp only [F153.fn, o, Int.reduceEq, decide_true, decide_false, cond_true, cond_false, ej, Option.bind_some, decide_eq_true g, ew, i1]
    · obtain ⟨w, e2, l2, e3⟩ := idx_of (n := b.f3.length) wj.1 (by omega)
      refine .inr (.inr ⟨by omega, by omega, j, 0, w, ej, ?_, by rw [← e3]; exact e2, ?_, get _ l2⟩)
      · simp only [F100.fn, o, Int.reduceEq, decide_true, decide_false, cond_true, cond_false, ew]
        by_cases g2 : ((b.f3.length - 1 : Nat) : Int) < vars.getD j 0
        · omega
        · rw [if_neg g2, e3]
      · simp only [F153.fn, o, Int.reduceEq, decide_true, decide_false, cond_true, cond_false, ej, Option.bind_some, decide_eq_false g, e2]
  · exact .inl ⟨o, by simp only [F153.fn, o, Int.reduceEq, decide_true, decide_false, cond_true, cond_false]⟩
  · exact .inr (.inl ⟨o, by simp only [F153.fn, o, Int.reduceEq, decide_true, decide_false, cond_true, cond_false]⟩)
end Go.Eng
set_option linter.unusedVariables false
set_option linter.unusedSimpArgs false
namespace Go.Eng
variable {N : Nat}
theorem run_same (hN : 140737488355328 ≤ N) {f : List T115} {fu : Int} {v8 v9 v10 v8' v9' v10' : List Int} (hf : f.all (gB (f.length : Int)) = true) (hfu : fu ≤ 2000) : ∀ (m n n' : Nat) (o0 o1 o2 vars : List Int) (d at1 : Int), m + 2 < n → m + 2 < n' → d + m = fu → 0 ≤ d → 0 ≤ at1 → at1 < f.length → Inv vars ⟨o0, o1, o2⟩ → ∃ o1' o2' vars' e d', F93.p0 N f fu v8 v9 v10 n o0 o1 o2 vars d 0 at1 = some (o0, o1', o2', vars', d', e) ∧ F32.p1 N f fu v8' v9' v10' n' o0 o1 o2 vars 3 d at1 = some (o0, o1', o2', vars', e, d') ∧ Inv vars' ⟨o0, o1', o2'⟩
  | 0, n + 1, n' + 1, o0, o1, o2, vars, d, at1, _, _, hd, _, _, _, hi => by
    refine ⟨o1, o2, vars, 3, d, ?_, ?_, hi⟩
    · rw [F93.p0, decide_eq_true rfl, cond_true, decide_eq_true (by omega), cond_true]
    · rw [F32.p1, F32.p2, decide_eq_true rfl, cond_true, Option.bind_some, decide_eq_false (by omega), cond_false]
  | m + 1, n + 1, n' + 1, o0, o1, o2, vars, d, at1, hn, hn', hd, h0, a0, a1, hi => by
    obtain ⟨j, ej, lj, _⟩ := idx_of (n := f.length) a0 a1
    have hb : gB (f.length : Int) (f.getD j default) = true := by
      rw [List.getD, List.getElem?_eq_getElem lj]
      exact List.all_eq_true.1 hf _ (List.getElem_mem lj)
    have hb2 := hb
    unfold gB at hb2
    simp only [Bool.and_eq_true, decide_eq_true_eq] at hb2
    obtain ⟨⟨hc, _⟩, _, hl⟩ := hb2
    obtain ⟨p1, p2, vars', e, r1, r2, he, hi'⟩ := block_same (N := N) (f := f) (f' := f) (fu := fu) (fu' := fu) (v4 := v8) (v5 := v9) (v6 := v10) (v4' := v8') (v5' := v9') (v6' := v10') (n31 := d + 1) (at33 := at1) (e61 := 3) (d62 := d + 1) (at63 := at1) (b65 := (f.getD j default).f1) (b66 := (f.getD j default).f2) (b64 := (f.getD j default).f0) (b67 := (f.getD j default).f3) (v := (f.getD j default).f0) (by omega) hc (f.getD j default).f0 0 N N o0 o1 o2 vars rfl (Nat.zero_le _) (by omega) (by omega) hi
    have r1 : F93.p1 N f fu v8 v9 v10 (d + 1) at1 (f.getD j default).f0 ((f.getD j default).f0.length : Int) N o0 o1 o2 vars 0 (0 : Int) = _ := r1
    rw [F93.p0, F32.p1, F32.p2, decide_eq_true rfl, decide_eq_true rfl, cond_true, cond_true, Option.bind_some, decide_eq_false (by omega : ¬ d = fu), cond_false, decide_eq_true (by omega : d < fu), cond_true, ej, Option.bind_some, Option.bind_some, w64_id (i := d + 1) (by omega) (by omega), r1, Option.bind_some]
    have r2' : ∀ dd : Int, F32.p3 N f fu v8' v9' v10' 3 dd at1 (f.getD j default).f0 (f.getD j default).f1 (f.getD j default).f2 (f.getD j default).f3 (f.getD j default).f0 ((f.getD j default).f0.length : Int) N o0 o1 o2 vars (0 : Int) = some (o0, p1, p2, vars', cond (decide (e = 0)) 3 2) := fun dd => by
      obtain ⟨q1, q2, qv, qe, t1, t2, _⟩ := block_same (N := N) (f := f) (f' := f) (fu := fu) (fu' := fu) (v4 := v8) (v5 := v9) (v6 := v10) (v4' := v8') (v5' := v9') (v6' := v10') (n31 := d + 1) (at33 := at1) (e61 := 3) (d62 := dd) (at63 := at1) (b65 := (f.getD j default).f1) (b66 := (f.getD j default).f2) (b64 := (f.getD j default).f0) (b67 := (f.getD j default).f3) (v := (f.getD j default).f0) (by omega) hc (f.getD j default).f0 0 N N o0 o1 o2 vars rfl (Nat.zero_le _) (by omega) (by omega) hi
      have t1 : F93.p1 N f fu v8 v9 v10 (d + 1) at1 (f.getD j default).f0 ((f.getD j default).f0.length : Int) N o0 o1 o2 vars 0 (0 : Int) = _ := t1
      rw [r1] at t1
      cases t1
      exact t2
    rw [r2', Option.bind_some]
    simp only
    rcases he with rfl | rfl
    · rw [decide_eq_true (rfl : (0 : Int) = 0), Bool.not_true, cond_false, cond_true, decide_eq_false (by decide : ¬ (3 : Int) = 2), cond_false]
      rcases next_same (N := N) hb hi'.lv hi'.wv with ⟨o, e1⟩ | ⟨o, e1⟩ | ⟨g3, g4, jj, ii, w, e1, e2, e3, e4, e5, e6⟩
      · rw [e1, Option.bind_some, decide_eq_true rfl, cond_true, decide_eq_true o, cond_true]
        obtain ⟨n, rfl⟩ : ∃ q, n = q + 1 := ⟨n - 1, by omega⟩
        obtain ⟨n', rfl⟩ : ∃ q, n' = q + 1 := ⟨n' - 1, by omega⟩
        refine ⟨p1, p2, vars', 1, d + 1, ?_, ?_, hi'⟩
        · rw [F93.p0, decide_eq_false (by decide : ¬ (1 : Int) = 0), cond_false]
        · rw [F32.p1, F32.p2, decide_eq_false (by decide : ¬ (1 : Int) = 3), cond_false, Option.bind_some, cond_false]
      · rw [e1, Option.bind_some, decide_eq_false (by decide : ¬ (-2 : Int) = -1), cond_false, decide_eq_true rfl, cond_true, decide_eq_false (by omega : ¬ (f.getD j default).f1 = 3), cond_false, decide_eq_true o, cond_true]
        obtain ⟨n, rfl⟩ : ∃ q, n = q + 1 := ⟨n - 1, by omega⟩
        obtain ⟨n', rfl⟩ : ∃ q, n' = q + 1 := ⟨n' - 1, by omega⟩
        refine ⟨p1, p2, vars', 2, d + 1, ?_, ?_, hi'⟩
        · rw [F93.p0, decide_eq_false (by decide : ¬ (2 : Int) = 0), cond_false]
        · rw [F32.p1, F32.p2, decide_eq_false (by decide : ¬ (2 : Int) = 3), cond_false, Option.bind_some, cond_false]
      · rw [e4, Option.bind_some, decide_eq_false (by omega), cond_false, decide_eq_false (by omega), cond_false, decide_eq_false g3, cond_false, decide_eq_false g4, cond_false, e1, Option.bind_some]
        rw [e2, Option.bind_some, e3, Option.bind_some]
        exact run_same hN hf hfu m n n' o0 p1 p2 vars' (d + 1) _ (by omega) (by omega) (by omega) (by omega) e5 e6 hi'
    · rw [decide_eq_false (by decide : ¬ (2 : Int) = 0), Bool.not_false, cond_true, cond_false, decide_eq_true rfl, cond_true]
      obtain ⟨n', rfl⟩ : ∃ q, n' = q + 1 := ⟨n' - 1, by omega⟩
      refine ⟨p1, p2, vars', 2, d + 1, rfl, ?_, hi'⟩
      rw [F32.p1, F32.p2, decide_eq_false (by decide : ¬ (2 : Int) = 3), cond_false, Option.bind_some, cond_false]
end Go.Eng
set_option linter.unusedVariables false
set_option linter.unusedSimpArgs false
namespace Go.Eng
variable {N : Nat}
theorem copyL_8 {l z : List Int} (h : l.length = 8) (hz : z.length = 8) : copyL z l = l := by
  unfold copyL
  rw [List.take_of_length_le (by omega), List.drop_eq_nil_of_le (by omega), List.append_nil]
theorem copyL_12 {l : List Int} (h : l.length = 8) : copyL (List.replicate 12 (0 : Int)) l = l ++ List.replicate 4 0 := by
  unfold copyL
  rw [List.take_of_length_le (by simp; omega), h]
  rfl
theorem F94_fn {s : T44} (h0 : s.f0.length ≤ 1048576) (h1 : s.f1.length ≤ 1048576) (h2 : s.f2.length ≤ 1048576) : F94.fn N s = some s := by
  rw [F94.fn, chk_T (by omega), Option.bind_some, chk_T (by omega), Option.bind_some, chk_T (by omega), Option.bind_some]
  rfl
theorem F158_fn {l : List Int} (h : l.length ≤ 1048576) : F158.fn N l = some l := by
  rw [F158.fn, chk_T (by omega), Option.bind_some]
theorem F98_fn {s : T44} (h0 : s.f0.length ≤ 1048576) (h1 : s.f1.length ≤ 1048576) (h2 : s.f2.length ≤ 1048576) : F98.fn N s = some s := by
  rw [F98.fn, F158_fn h0, Option.bind_some, F158_fn h1, Option.bind_some, F158_fn h2, Option.bind_some]
def small (s : T44) : Prop := s.f0.length ≤ 1048576 ∧ s.f1.length ≤ 1048576 ∧ s.f2.length ≤ 1048576
theorem F29_p0 (hN : 140737488355328 ≤ N) {f : List T115} {s : T44} {fu : Int} (hf : isL 64 T115.ok f) (hs : small s) : F29.p0 N f fu s.f0 s.f1 s.f2 [] = some (!(gG f && (gS s && decide (0 ≤ fu ∧ fu ≤ 2000)))) := by
  obtain ⟨h0, h1, h2⟩ := hs
  rw [F29.p0, F91_fn hN hf, Option.bind_some, show (⟨s.f0, s.f1, s.f2⟩ : T44) = s from rfl, F71_fn hN (by omega) (by omega) (by omega), Option.bind_some, F92.fn, F151_fn, Option.bind_some, Option.bind_some]
  cases gG f <;> cases gS s <;> rfl
theorem F32_p0 (hN : 140737488355328 ≤ N) {f : List T115} {s : T44} {fu : Int} (hf : isL 64 T115.ok f) (hs : small s) : F32.p0 N f fu s.f0 s.f1 s.f2 [] = some (!(gG f && (gS s && decide (0 ≤ fu ∧ fu ≤ 2000)))) := by
  obtain ⟨h0, h1, h2⟩ := hs
  rw [F32.p0, F96_fn hN hf, Option.bind_some, show (⟨s.f0, s.f1, s.f2⟩ : T44) = s from rfl, F70_fn hN (by omega) (by omega) (by omega), Option.bind_some, F97_fn, Option.bind_some]
  cases gG f <;> cases gS s <;> rfl
theorem flow_same (hN : 140737488355328 ≤ N) {f : List T115} {s : T44} {fu : Int} (hf : isL 64 T115.ok f) (hs : small s) : ∃ r, F29.fn N f s fu = some r ∧ F32.fn N f s fu = some r ∧ small r.1 := by
  unfold F29.fn F32.fn
  rw [F29_p0 hN hf hs, F32_p0 hN hf hs, Option.bind_some, Option.bind_some]
  cases hg : gG f && (gS s && decide (0 ≤ fu ∧ fu ≤ 2000)) with
  | false => exact ⟨_, rfl, rfl, by simp [small]⟩
  | true =>
    simp only [Bool.and_eq_true, decide_eq_true_eq] at hg
    obtain ⟨h1, h2, h3⟩ := hg
    unfold gG at h1
    unfold gS at h2
    simp only [Bool.and_eq_true, decide_eq_true_eq] at h1 h2
    obtain ⟨hG, hl1, hl2⟩ := h1
    obtain ⟨⟨⟨⟨w0, l0⟩, w1, l1⟩, l2⟩, w2⟩ := h2
    obtain ⟨z0, z1, z2⟩ := hs
    have hi : Inv (s.f0 ++ List.replicate 4 0) ⟨s.f0, s.f1, s.f2⟩ := ⟨by rw [List.length_append, List.length_replicate]; omega, by rw [List.all_append, w0]; decide, by simp only; omega, w1, by simp only; omega⟩
    obtain ⟨o1, o2, vs, e, d, r1, r2, hi'⟩ := run_same hN (v8 := []) (v9 := []) (v10 := []) (v8' := []) (v9' := []) (v10' := []) hG h3.2 fu.toNat N N s.f0 s.f1 s.f2 _ 0 0 (by omega) (by omega) (by omega) (by omega) (by omega) (by omega) hi
    have lv := hi'.lv
    have lm := hi'.lm
    have lt := hi'.lt
    simp only at lm lt
    have t8 : (vs.take 8).length = 8 := by rw [List.length_take]; omega
    rw [Bool.not_true, cond_false, cond_false, F98_fn z0 z1 z2, Option.bind_some, F93.fn, F94_fn z0 z1 z2, Option.bind_some]
    rw [chk_T (by omega), Option.bind_some, chk_T (by omega), Option.bind_some, chk_T (by omega), Option.bind_some, List.nil_append, r1, Option.bind_some]
    simp only
    rw [chk_T (by omega), Option.bind_some, chk_T (by omega), Option.bind_some, Option.bind_some]
    simp only
    rw [F94_fn (by simp only [List.nil_append]; omega) (by simp only; omega) (by simp only; omega), Option.bind_some, chk_T (by omega), Option.bind_some, chk_T (by omega), Option.bind_some, copyL_12 (by omega), r2, Option.bind_some]
    simp only
    rw [chk_T (by omega), Option.bind_some, chk_T (by omega), Option.bind_some, copyL_8 t8 (by omega)]
    exact ⟨_, rfl, rfl, by simp only [List.nil_append]; omega, by simp only; omega, by simp only; omega⟩
theorem bne_F (b : Bool) : (b != b) = false := by cases b <;> rfl
/-- The law. -/
theorem runFlow_law : ∀ (a0 : List T115) (a1 : T44) (a2 : Int), (isL 64 T115.ok) a0 → T44.ok a1 → (isI .i64) a2 → ∃ n, F4.fn n a0 a1 a2 = some true := fun a0 a1 a2 h0 h1 _ => by
  suffices h : ∀ N, 140737488355328 ≤ N → F4.fn N a0 a1 a2 = some true from ⟨_, h _ (Nat.le_refl _)⟩
  intro N hN
  obtain ⟨r1, e1, k1⟩ := F27_fn hN h0 (l := 1048576) (by omega) (by omega)
  rw [F4.fn, e1, Option.bind_some]
  by_cases g1 : r1 < 0
  · rw [decide_eq_true g1, cond_true]
  · have k1 := k1 (by omega)
    obtain ⟨r2, e2, k2⟩ := F28_fn (N := N) h1 (l := r1) (by omega) (by omega)
    rw [decide_eq_false g1, cond_false, e2, Option.bind_some]
    by_cases g2 : r2 < 0
    · rw [decide_eq_true g2, cond_true]
    · have k2 := k2 (by omega)
      have hs : small a1 := ⟨by omega, by omega, by omega⟩
      obtain ⟨r, s1, s2, sm⟩ := flow_same hN (fu := a2) h0 hs
      obtain ⟨b0, b1, b2⟩ := sm
      have c0 := F30_fn hN h0
      have c1 := F31_fn hN h1
      have q : F33.fn N (⟨r.1.f0, r.1.f1, r.1.f2⟩ : T44) (⟨r.1.f0, r.1.f1, r.1.f2⟩ : T44) = some true := F33_fn hN (by simp only; omega) (by simp only; omega) (by simp only; omega)
      have q1 : F33.fn N a1 a1 = some true := F33_fn hN (by omega) (by omega) (by omega)
      obtain ⟨v, k, m1, m2, m3, m4⟩ := F35_fn hN h0 (by omega)
      obtain ⟨u, n1, n2, n3, n4, _⟩ := F36_fn hN (a := a1) (k := k) (by omega) (by omega) (by omega) m3 m4
      obtain ⟨w, t1, t2, t3, t4, t5, t6, t7⟩ := F36_fn hN (a := r.1) (k := 1) (by omega) (by omega) (by omega) (by omega) (by omega)
      have z : F37.fn N w 1 = some ((1 : Int) + r.1.f0.length + r.1.f1.length + r.1.f2.length) := by
        rw [F37_fn hN (by omega) (by omega) (by omega) (by omega) (by omega) t5 (by rw [t2]; exact t6) (by rw [t2, t3]; exact t7), t2, t3, t4]
      rw [decide_eq_false g2, cond_false, c0, Option.bind_some, c1, Option.bind_some, s1, Option.bind_some, Option.bind_some, Option.bind_some, s2, Option.bind_some]
      rw [F4.p0, q, Option.bind_some, Bool.not_true, cond_false, decide_eq_true rfl, Bool.not_true, cond_false, decide_eq_true rfl, Bool.not_true, cond_false, bne_F, Option.bind_some, cond_false]
      rw [Option.bind_some, F34_fn hN h0, Option.bind_some, Bool.not_true, cond_false, Option.bind_some, q1, Option.bind_some, Bool.not_true, cond_false, m1, Option.bind_some, chk_T m2, Option.bind_some, n1, Option.bind_some, chk_T n2, Option.bind_some, chk_T n3, Option.bind_some, chk_T n4, Option.bind_some]
      rw [F4.p1, decide_eq_false (by omega), cond_false, q, Option.bind_some, Bool.not_true, cond_false, decide_eq_true rfl, Bool.not_true, cond_false, decide_eq_true rfl, Bool.not_true, cond_false, bne_F, Option.bind_some, cond_false]
      rw [t1, Option.bind_some, chk_T t2, Option.bind_some, chk_T t3, Option.bind_some, chk_T t4, Option.bind_some, z, Option.bind_some, decide_eq_false (by omega), cond_false, decide_eq_true rfl, Bool.not_true, cond_false, Option.bind_some, Option.bind_some, s2, Option.bind_some]
      rw [F4.p2, q, Option.bind_some, Bool.not_true, cond_false, decide_eq_true rfl, Bool.not_true, cond_false, decide_eq_true rfl, Bool.not_true, cond_false, bne_F, Option.bind_some, cond_false]
      rw [Option.bind_some, decide_eq_false (by omega), cond_false, decide_eq_true rfl, Bool.not_true, cond_false]
end Go.Eng
namespace Go.Proofs.Yteenopeoblkakaa
theorem FnExactRunFlow_proved : Rows.FnExactRunFlowSaid := fnExactRunFlow_holds Go.Eng.runFlow_law
end Go.Proofs.Yteenopeoblkakaa
