/-
  The law FnRewrite returns true at every input, and the input reads behind the call as it did before. Conditions: none but the row's own.
-/
import Derived.Test.YteenopeoblkakaaGB
import Derived.Test.YteenopeoblkakaaRows
import Derived.Laws.Strings
set_option linter.unusedVariables false
set_option linter.unusedSimpArgs false
set_option linter.unnecessarySimpa false
set_option linter.unusedVariables false
namespace Go.Eng
/-! Plain facts for the laws. -/
section
variable {α : Type} {xs ys : List α} {k n : Nat} {d x : α}
theorem idx_nat (h : k < n) : idx (k : Int) n = some k := by
  unfold idx
  rw [if_pos ⟨by omega, by omega⟩]
  simp
theorem w64_id {i : Int} (h : -9223372036854775808 ≤ i) (h2 : i < 9223372036854775808) : w64 i = i := by
  unfold w64 IntKind.wrap
  simp only [show IntKind.i64.signed = true from rfl, show IntKind.i64.bits = 64 from rfl, Bool.true_and, decide_eq_true_eq, Int.reduceSub, Nat.reduceSub, Int.reducePow]
  split <;> omega
theorem w64_nat (h : k < 4611686018427387904) : w64 ((k : Int) + 1) = ((k + 1 : Nat) : Int) := by
  rw [w64_id] <;> omega
theorem drop_cons_F {t : List α} (h : xs.drop k = x :: t) : k < xs.length ∧ xs.getD k d = x ∧ xs.drop (k + 1) = t := by
  have hl : k < xs.length := by
    rcases Nat.lt_or_ge k xs.length with g | g
    · exact g
    · rw [List.drop_eq_nil_of_le g] at h; cases h
  rw [List.drop_eq_getElem_cons hl] at h
  simp only [List.cons.injEq] at h
  exact ⟨hl, by rw [List.getD, List.getElem?_eq_getElem hl]; exact h.1, h.2⟩
theorem drop_nil_F (h : xs.drop k = []) (hk : k ≤ xs.length) : k = xs.length := by
  have := List.drop_eq_nil_iff.1 h
  omega
theorem chk_T {c : Prop} {i : Decidable c} (h : c) : @chk c i = some () := by
  unfold chk
  rw [if_pos h]
theorem lt_T (h : k < n) : decide ((k : Int) < (n : Int)) = true := decide_eq_true (by omega)
theorem lt_F (h : n ≤ k) : decide ((k : Int) < (n : Int)) = false := decide_eq_false (by omega)
theorem copy_ln (hk : k ≤ xs.length) : (xs.take k ++ List.replicate (xs.length - k) d).length = xs.length := by
  rw [List.length_append, List.length_take, List.length_replicate]
  omega
theorem copy_step (h : k < xs.length) : (xs.take k ++ List.replicate (xs.length - k) d).set k (xs.getD k d) = xs.take (k + 1) ++ List.replicate (xs.length - (k + 1)) d := by
  apply List.ext_getElem?
  intro i
  rw [List.getElem?_set]
  by_cases hi : k = i
  · subst hi
    have h1 : k < (xs.take k ++ List.replicate (xs.length - k) d).length := by rw [copy_ln (by omega)]; exact h
    have h2 : k < (xs.take (k + 1)).length := by rw [List.length_take]; omega
    rw [if_pos rfl, if_pos h1, List.getElem?_append_left h2, List.getElem?_take, if_pos (by omega), List.getD, List.getElem?_eq_getElem h]
    rfl
  · rw [if_neg hi]
    by_cases hl : i < k
    · have h1 : i < (xs.take k).length := by rw [List.length_take]; omega
      have h2 : i < (xs.take (k + 1)).length := by rw [List.length_take]; omega
      rw [List.getElem?_append_left h1, List.getElem?_append_left h2, List.getElem?_take, List.getElem?_take, if_pos hl, if_pos (by omega)]
    · have h1 : (xs.take k).length ≤ i := by rw [List.length_take]; omega
      have h2 : (xs.take (k + 1)).length ≤ i := by rw [List.length_take]; omega
      rw [List.getElem?_append_right h1, List.getElem?_append_right h2, List.length_take, List.length_take, List.getElem?_replicate, List.getElem?_replicate]
      have e1 : min k xs.length = k := by omega
      have e2 : min (k + 1) xs.length = k + 1 := by omega
      rw [e1, e2]
      by_cases hg : i < xs.length
      · rw [if_pos (by omega), if_pos (by omega)]
      · rw [if_neg (by omega), if_neg (by omega)]
theorem copy_all : xs.take xs.length ++ List.replicate (xs.length - xs.length) d = xs := by simp
theorem big_of_isL {m : Nat} {ok : α → Prop} (h : isL m ok xs) (hm : 0 < m) : xs.length < 140737488355328 := by
  have := h.1
  have h2 : xs.length * 1 ≤ xs.length * m := Nat.mul_le_mul_left _ hm
  unfold reachBytes at this
  omega
theorem isL_drop {m : Nat} {ok : α → Prop} (h : isL m ok xs) {t : List α} (hd : xs.drop k = x :: t) : ok x := h.2 x (List.mem_of_mem_drop (hd ▸ List.mem_cons_self))
end
theorem cond_some {α : Type} {b : Bool} {x y : α} : cond b (some x) (some y) = some (cond b x y) := by cases b <;> rfl
theorem cond_pair {α β : Type} {b : Bool} {x y : α} {u v : β} : cond b (x, u) (y, v) = (cond b x y, cond b u v) := by cases b <;> rfl
theorem cond_id {α : Type} {b : Bool} {x : α} : cond b x x = x := by cases b <;> rfl
theorem cond_iff {b c d : Bool} : (cond b c d = true) ↔ (b = true ∧ c = true) ∨ (¬ b = true ∧ d = true) := by cases b <;> simp
theorem idx_of {i : Int} {n : Nat} (h0 : 0 ≤ i) (h1 : i < n) : ∃ j : Nat, idx i n = some j ∧ j < n ∧ i = j := ⟨i.toNat, by unfold idx; rw [if_pos ⟨h0, h1⟩], by omega, by omega⟩
end Go.Eng
set_option linter.unusedVariables false
set_option maxRecDepth 100000
set_option maxHeartbeats 1000000
namespace Go.Eng
open Go.Proofs
theorem rd5 (W : World) : Rds Try.prog W 5 (eI .u8) (isI .u8) := rds_int Try.underlying5 (by kernel_rfl)
theorem rd22 (W : World) : Rds Try.prog W 22 (eS (eI .u8)) (isL 1 (isI .u8)) := by
  have := rds_slice (t := 22) Try.underlying22 (by kernel_rfl) (rd5 W)
  rwa [show Try.prog.bytesOf 5 = 1 from by kernel_rfl] at this
end Go.Eng
namespace Go.Proofs.Yteenopeoblkakaa
open Go.ChangeShapes Go.WideShapes Go.ChangeAt Go.RowKit Go.Eng
theorem own : ownKnob Try.prog.godebug = none := by kernel_rfl
theorem laidOut : laidOutB Try.prog = true := by kernel_rfl
theorem fnRewrite_facts : joinedFacts Try.pinned.checked.prog 3 Try.f3 Rows.fnRewriteSpec Rows.fnRewriteRow = true := by kernel_rfl
theorem fnRewrite_named : Try.pinned.checked.prog.funcNamed Rows.fnRewriteRow.func = some 3 := by kernel_rfl
theorem fnRewrite_inst : decide (Try.f3.isInstance Try.pinned.checked.prog Rows.fnRewriteRow.origin Rows.fnRewriteRow.targs) = true := by kernel_rfl
theorem fnRewrite_wrap : Try.f3.isWrapper Try.pinned.checked.prog Rows.fnRewriteRow.wrapper Rows.fnRewriteRow.mainSum := by unfold Func.isWrapper; first | (rw [if_pos (by decide +kernel)]; kernel_rfl) | (rw [if_neg (by decide +kernel)]; exact ⟨rfl, rfl⟩)
set_option maxRecDepth 100000 in
theorem fnRewrite_lifted (law : ∀ (a0 : List Int) (a1 : List Int), (isL 1 (isI .u8)) a0 → (isL 1 (isI .u8)) a1 → ∃ n, F3.fn n a0 a1 = some true) (os : Os) (started : os.Started) (H : Type) (enc : TypeId × Value → H) :
    ReturnsInHanded {} Try.checked os 3 .any (Rows.fnRewriteSpec.pre6 enc Try.prog Try.f3 Rows.fnRewriteRow.domain false) (Rows.fnRewriteSpec.post enc Try.prog Try.f3 false true false false) := by
  refine returnsInHanded_of_change_sized (C := Try.checked) own started (by kernel_rfl) Try.func3
    (ChangeSpec.witness6 (enc := enc) (C := Try.checked) false ⟨#[], #[.slice none 0 0, .slice none 0 0], []⟩ 8 (by kernel_rfl) (by kernel_rfl) (by kernel_rfl) (by kernel_rfl)) ?_
  intro W base args ds gs before hval0 hW _ hsz0 _
  have hval : ∀ (j : Nat) t v, Try.f3.params[j]? = some t → args[j]? = some v → Value.okWide Try.prog W .any base t v := hval0
  have hsz : (DataW.weightsEach Try.prog (Try.f3.params.toList ++ Rows.fnRewriteSpec.plain.varTypes Try.prog) (ds ++ gs)).all (· ≤ reachBytes) = true := hsz0
  clear hsz0 hval0
  have hW' := hW
  obtain ⟨p, q, hA0, hV, rfl, _, _⟩ := hW
  have hA : DataW.TrodAll enc Try.prog W 0 (fun _ => true) true Try.f3.params.toList args.toList ds p := hA0
  clear hA0
  rw [Try.params3] at hA hval hsz
  obtain ⟨v0, v1, d0, d1, p0, p1, rfl, rfl, rfl, h0, h1⟩ := trodAll_two hA
  obtain ⟨rfl, rfl⟩ := trodVars_none hV
  simp only [List.append_nil] at hW'
  have hlt : ∀ x ∈ p0 ++ p1, x.block < W.heap.size := fun x hx => by simpa using hW'.lt x hx
  have hsz2 : (DataW.weightsEach Try.prog [22, 22] [d0, d1]).all (fun x => decide (x ≤ reachBytes)) = true := hsz
  simp only [DataW.weightsEach, List.all_append, Bool.and_eq_true] at hsz2
  obtain ⟨w0, w1, _⟩ := hsz2
  obtain ⟨a0, x0, k0⟩ := arg_slice (ok := (isI .u8)) Try.underlying22 (by have := rd22 W; rwa [show (1 : Nat) = Try.prog.bytesOf 5 from by kernel_rfl] at this) (hval 0 22 v0 rfl rfl) h0 w0
  rw [show Try.prog.bytesOf 5 = 1 from by kernel_rfl] at k0
  obtain ⟨a1, x1, k1⟩ := arg_slice (ok := (isI .u8)) Try.underlying22 (by have := rd22 W; rwa [show (1 : Nat) = Try.prog.bytesOf 5 from by kernel_rfl] at this) (hval 1 22 v1 rfl rfl) h1 w1
  rw [show Try.prog.bytesOf 5 = 1 from by kernel_rfl] at k1
  obtain ⟨m, hm⟩ := law a0 a1 k0 k1
  refine (law_calls (ts := [(vS (eI .u8) a0), (vS (eI .u8) a1)]) (F3.fn_c m a0 a1 _ hm) (by simp only [LI]; exact ⟨_, _, rfl, x0, ⟨_, _, rfl, x1, rfl⟩⟩)).mono ?_
  rintro e W1 ⟨rfl, hb⟩
  refine ⟨_, rfl, _, _, _, [], (p0 ++ (p1)), [], hW', trodAll_mk1 (shut_bool Try.underlying4 _), trodAll_mk2 (Below.trod laidOut (by kernel_rfl) (of_decide_eq_true (by kernel_rfl)) h0 hb (fun x hx => hlt x (List.mem_append.2 (.inl hx)))) (Below.trod laidOut (by kernel_rfl) (of_decide_eq_true (by kernel_rfl)) h1 hb (fun x hx => hlt x (List.mem_append.2 (.inr hx)))), rfl, hb.frame _, fun h => by cases h⟩
theorem fnRewrite_holds (law : ∀ (a0 : List Int) (a1 : List Int), (isL 1 (isI .u8)) a0 → (isL 1 (isI .u8)) a1 → ∃ n, F3.fn n a0 a1 = some true) : Rows.FnRewriteSaid :=
  OpenClaim.holds_of_wide 3 Try.f3 rfl rfl rfl rfl rfl rfl rfl ⟨rfl, rfl, rfl, rfl, rfl⟩ rfl rfl rfl rfl rfl fnRewrite_named Try.func3 fnRewrite_facts
    (of_decide_eq_true fnRewrite_inst) fnRewrite_wrap
    (fun os started H enc _ => fnRewrite_lifted law os started H enc)
end Go.Proofs.Yteenopeoblkakaa
set_option linter.unusedVariables false
namespace Go.Eng
/-! Rewriting of texts: what is joined at its critical pairs comes to one end. -/
abbrev Str := List UInt8
abbrev Rs := List (Str × Str)
def RStep (R : Rs) (s t : Str) : Prop := ∃ r ∈ R, ∃ u v, s = u ++ (r.1 ++ v) ∧ t = u ++ (r.2 ++ v)
inductive Star (R : Rs) : Str → Str → Prop
  | refl (s : Str) : Star R s s
  | head {s t u : Str} (h : RStep R s t) (k : Star R t u) : Star R s u
def Joins (R : Rs) (a b : Str) : Prop := ∃ w, Star R a w ∧ Star R b w
section
variable {R : Rs} {a b c s t u : Str}
theorem Star.trans (h : Star R a b) (k : Star R b c) : Star R a c := by
  induction h with
  | refl => exact k
  | head h _ ih => exact .head h (ih k)
theorem Star.one (h : RStep R a b) : Star R a b := .head h (.refl _)
theorem RStep.ctx (h : RStep R a b) (x y : Str) : RStep R (x ++ (a ++ y)) (x ++ (b ++ y)) := by
  obtain ⟨r, hr, u, v, rfl, rfl⟩ := h
  exact ⟨r, hr, x ++ u, v ++ y, by simp only [List.append_assoc], by simp only [List.append_assoc]⟩
theorem Star.ctx (h : Star R a b) (x y : Str) : Star R (x ++ (a ++ y)) (x ++ (b ++ y)) := by
  induction h with
  | refl => exact .refl _
  | head h _ ih => exact .head (h.ctx x y) ih
theorem Joins.symm (h : Joins R a b) : Joins R b a := let ⟨w, h1, h2⟩ := h; ⟨w, h2, h1⟩
theorem Joins.refl (a : Str) : Joins R a a := ⟨a, .refl _, .refl _⟩
theorem Joins.ctx (h : Joins R a b) (x y : Str) : Joins R (x ++ (a ++ y)) (x ++ (b ++ y)) := let ⟨w, h1, h2⟩ := h; ⟨_, h1.ctx x y, h2.ctx x y⟩
/-- The critical pairs of rule i over rule j are joined. -/
structure Crit (R : Rs) : Prop where
  over : ∀ (i j : Nat) (r q : Str × Str), R[i]? = some r → R[j]? = some q → ∀ a c d : Str, r.1 = a ++ c → q.1 = c ++ d → a ≠ [] → c ≠ [] → d ≠ [] → Joins R (r.2 ++ d) (a ++ q.2)
  inside : ∀ (i j : Nat) (r q : Str × Str), R[i]? = some r → R[j]? = some q → i ≠ j → ∀ a d : Str, r.1 = a ++ (q.1 ++ d) → Joins R r.2 (a ++ (q.2 ++ d))
theorem local_le (hc : Crit R) {i j : Nat} {r q : Str × Str} (hi : R[i]? = some r) (hj : R[j]? = some q) {x v w : Str} (h : r.1 ++ v = x ++ (q.1 ++ w)) : Joins R (r.2 ++ v) (x ++ (q.2 ++ w)) := by
  have mr : r ∈ R := List.mem_of_getElem? hi
  have mq : q ∈ R := List.mem_of_getElem? hj
  have apart : ∀ e : Str, x = r.1 ++ e → v = e ++ (q.1 ++ w) → Joins R (r.2 ++ v) (x ++ (q.2 ++ w)) := fun e h1 h2 => by
    subst h1 h2
    refine ⟨r.2 ++ (e ++ (q.2 ++ w)), Star.one ⟨q, mq, r.2 ++ e, w, by simp only [List.append_assoc], by simp only [List.append_assoc]⟩, Star.one ⟨r, mr, [], e ++ (q.2 ++ w), by simp only [List.nil_append, List.append_assoc], by simp only [List.nil_append, List.append_assoc]⟩⟩
  have within : ∀ d : Str, r.1 = x ++ (q.1 ++ d) → w = d ++ v → Joins R (r.2 ++ v) (x ++ (q.2 ++ w)) := fun d h1 h2 => by
    subst h2
    by_cases hij : i = j
    · subst hij
      rw [hi] at hj
      cases hj
      have hl := congrArg List.length h1
      simp only [List.length_append] at hl
      have hx : x = [] := List.eq_nil_of_length_eq_zero (by omega)
      have hd : d = [] := List.eq_nil_of_length_eq_zero (by omega)
      subst hx hd
      simp only [List.nil_append]
      exact Joins.refl _
    · have := (hc.inside i j r q hi hj hij x d h1).ctx [] v
      simpa only [List.nil_append, List.append_assoc] using this
  rcases List.append_eq_append_iff.1 h with ⟨e, h1, h2⟩ | ⟨c, h1, h2⟩
  · exact apart e h1 h2
  · rcases List.append_eq_append_iff.1 h2 with ⟨d, h3, h4⟩ | ⟨d, h3, h4⟩
    · exact within d (by rw [h1, h3]) h4
    · by_cases c0 : c = []
      · subst c0
        simp only [List.nil_append, List.append_nil] at h1 h3
        exact apart [] (by simp [h1]) (by rw [h4, h3]; rfl)
      · by_cases d0 : d = []
        · subst d0
          simp only [List.nil_append, List.append_nil] at h3 h4
          exact within [] (by rw [h1, h3, List.append_nil]) (by rw [h4]; rfl)
        · by_cases x0 : x = []
          · subst x0
            simp only [List.nil_append] at h1 ⊢
            subst h4
            by_cases hij : j = i
            · subst hij
              rw [hi] at hj
              cases hj
              rw [h1] at h3
              have hl := congrArg List.length h3
              simp only [List.length_append] at hl
              exact absurd (List.eq_nil_of_length_eq_zero (by omega)) d0
            · have := ((hc.inside j i q r hj hi hij [] d (by rw [h3, h1]; rfl)).ctx [] w).symm
              simpa only [List.nil_append, List.append_assoc] using this
          · subst h4
            have := (hc.over i j r q hi hj x c d h1 h3 x0 c0 d0).ctx [] w
            simpa only [List.nil_append, List.append_assoc] using this
theorem local_conf (hc : Crit R) (h : RStep R s t) (k : RStep R s u) : Joins R t u := by
  obtain ⟨r, hr, x, v, rfl, rfl⟩ := h
  obtain ⟨q, hq, y, w, e, rfl⟩ := k
  obtain ⟨i, hi⟩ := List.getElem?_of_mem hr
  obtain ⟨j, hj⟩ := List.getElem?_of_mem hq
  rcases List.append_eq_append_iff.1 e with ⟨z, h1, h2⟩ | ⟨z, h1, h2⟩
  · subst h1
    have := (local_le hc hi hj h2).ctx x []
    simpa only [List.append_nil, List.append_assoc] using this
  · subst h1
    have := ((local_le hc hj hi h2).ctx y []).symm
    simpa only [List.append_nil, List.append_assoc] using this
/-- Newman. -/
theorem newman {lt : Str → Str → Prop} (wf : WellFounded lt) (hd : ∀ s t, RStep R s t → lt t s) (hc : Crit R) : ∀ s t u, Star R s t → Star R s u → Joins R t u := by
  intro s
  induction s using wf.induction with
  | _ s ih =>
    intro t u h k
    cases h with
    | refl => exact ⟨u, k, .refl _⟩
    | @head _ t1 _ h1 h2 =>
      cases k with
      | refl => exact ⟨t, .refl _, .head h1 h2⟩
      | @head _ u1 _ k1 k2 =>
        obtain ⟨w, w1, w2⟩ := local_conf hc h1 k1
        obtain ⟨p, p1, p2⟩ := ih t1 (hd _ _ h1) t w h2 w1
        obtain ⟨q, q1, q2⟩ := ih u1 (hd _ _ k1) p u (w2.trans p2) k2
        exact ⟨q, p1.trans q1, q2⟩
/-- No rule fits. -/
def Normal (R : Rs) (s : Str) : Prop := ∀ t, ¬ RStep R s t
theorem Star.normal (h : Star R s t) (hn : Normal R s) : t = s := by
  cases h with
  | refl => rfl
  | head h _ => exact absurd h (hn _)
theorem one_end {lt : Str → Str → Prop} (wf : WellFounded lt) (hd : ∀ s t, RStep R s t → lt t s) (hc : Crit R) (h : Star R s t) (k : Star R s u) (nt : Normal R t) (nu : Normal R u) : t = u := by
  obtain ⟨w, w1, w2⟩ := newman wf hd hc s t u h k
  rw [← w1.normal nt, ← w2.normal nu]
end
end Go.Eng
set_option linter.unusedVariables false
set_option linter.unusedSimpArgs false
namespace Go.Eng
def val : Str → Nat
  | [] => 0
  | x :: xs => x.toNat * 256 ^ xs.length + val xs
theorem val_lt : ∀ (xs : Str), val xs < 256 ^ xs.length
  | [] => by simp [val]
  | x :: xs => by
    have h := val_lt xs
    have hx : x.toNat ≤ 255 := by have := x.toNat_lt; omega
    have : x.toNat * 256 ^ xs.length ≤ 255 * 256 ^ xs.length := Nat.mul_le_mul_right _ hx
    simp only [val, List.length_cons, Nat.pow_succ]
    omega
theorem val_app : ∀ (a b : Str), val (a ++ b) = val a * 256 ^ b.length + val b
  | [], b => by simp [val]
  | x :: a, b => by
    simp only [List.cons_append, val, val_app a b, List.length_append, Nat.pow_add, Nat.add_mul, Nat.mul_assoc, Nat.add_assoc]
theorem less_val : ∀ (a b : Str), a.length = b.length → (Op.bytesLess a b = true ↔ val a < val b)
  | [], [], _ => by simp [Op.bytesLess, val]
  | x :: a, y :: b, h => by
    have h : a.length = b.length := by simpa using h
    have ih := less_val a b h
    have ha := val_lt a
    have hb := val_lt b
    rw [← h] at hb
    simp only [val, ← h]
    have key : Op.bytesLess (x :: a) (y :: b) = true ↔ x < y ∨ (x = y ∧ Op.bytesLess a b = true) := by
      simp only [Op.bytesLess]
      by_cases h1 : x < y
      · simp [h1]
      · by_cases h2 : x = y
        · subst h2; simp [h1]
        · simp [h1, h2]
          trace_state
    rw [key, ih]
    have hp : 0 < 256 ^ a.length := Nat.pow_pos (by decide)
    have hxy : x < y ↔ x.toNat < y.toNat := UInt8.lt_iff_toNat_lt
    have hxe : x = y ↔ x.toNat = y.toNat := ⟨fun e => by rw [e], fun e => UInt8.toNat_inj.1 e⟩
    rw [hxy, hxe]
    generalize x.toNat = m
    generalize y.toNat = n
    generalize 256 ^ a.length = p at *
    rcases Nat.lt_trichotomy m n with g | g | g
    · have : (m + 1) * p ≤ n * p := Nat.mul_le_mul_right _ g
      rw [Nat.succ_mul] at this
      exact ⟨fun _ => by omega, fun _ => .inl g⟩
    · subst g
      exact ⟨fun h => by rcases h with h | h <;> omega, fun h => .inr ⟨rfl, by omega⟩⟩
    · have : (n + 1) * p ≤ m * p := Nat.mul_le_mul_right _ g
      rw [Nat.succ_mul] at this
      exact ⟨fun h => by rcases h with h | h <;> omega, fun h => by omega⟩
/-- Shorter, or as long and less. -/
def Less (a b : Str) : Prop := a.length < b.length ∨ (a.length = b.length ∧ val a < val b)
theorem Less.wf : WellFounded Less := by
  have h : WellFounded (Prod.Lex (fun a b : Nat => a < b) (fun a b : Nat => a < b)) := (Prod.lex ⟨_, Nat.lt_wfRel.wf⟩ ⟨_, Nat.lt_wfRel.wf⟩).wf
  refine Subrelation.wf ?_ (InvImage.wf (fun s : Str => (s.length, val s)) h)
  intro a b hab
  rcases hab with h | ⟨h1, h2⟩
  · exact Prod.Lex.left _ _ h
  · show Prod.Lex _ _ (a.length, val a) (b.length, val b)
    rw [h1]
    exact Prod.Lex.right _ h2
theorem Less.trans {a b c : Str} (h : Less a b) (k : Less b c) : Less a c := by
  unfold Less at *
  omega
theorem Less.irrefl {a : Str} : ¬ Less a a := by
  unfold Less
  omega
theorem Less.ctx {a b : Str} (h : Less a b) (u v : Str) : Less (u ++ (a ++ v)) (u ++ (b ++ v)) := by
  unfold Less at *
  simp only [List.length_append, val_app]
  rcases h with h | ⟨h1, h2⟩
  · left
    omega
  · right
    refine ⟨by omega, ?_⟩
    rw [h1]
    have : val a * 256 ^ v.length < val b * 256 ^ v.length := Nat.mul_lt_mul_of_pos_right h2 (Nat.pow_pos (by decide))
    omega
end Go.Eng
set_option linter.unusedVariables false
set_option linter.unusedSimpArgs false
namespace Go.Eng
variable {N : Nat}
theorem toN_nat {k : Nat} : toN (k : Int) = some k := by
  unfold toN
  rw [if_pos (by omega)]
  simp
theorem toN_eq {i : Int} {k : Nat} (h : i = (k : Int)) : toN i = some k := by rw [h]; exact toN_nat
theorem ext2 {s : ByteArray} {k m : Nat} (h : k + m ≤ s.size) : (s.extract k s.size).extract 0 m = s.extract k (k + m) := by
  rw [ByteArray.extract_extract]
  congr 1
  omega
theorem F208_fn {s t : ByteArray} {k : Nat} (hs : s.size ≤ 1048576) (ht : t.size ≤ 1048576) (hk : k ≤ s.size) : F208.fn N s t (k : Int) = some (decide (k + t.size ≤ s.size) && sEq (s.extract k (k + t.size)) t) := by
  have e : (k : Int) + (t.size : Int) = ((k + t.size : Nat) : Int) := by omega
  rw [F208.fn, w64_id (by omega) (by omega), e]
  by_cases h : k + t.size ≤ s.size
  · rw [decide_eq_true (by omega), cond_true, toN_nat, Option.bind_some, toN_nat, Option.bind_some, chk_T (by omega), Option.bind_some, chk_T h, Option.bind_some, decide_eq_true h, Bool.true_and]
  · rw [decide_eq_false (by omega), cond_false, decide_eq_false h, Bool.false_and]
def hit (r : T174) (s : ByteArray) (k : Nat) : Bool := decide (k + r.f0.size ≤ s.size) && sEq (s.extract k (k + r.f0.size)) r.f0
def put (r : T174) (s : ByteArray) (k : Nat) : ByteArray := (s.extract 0 k ++ r.f1) ++ s.extract (k + r.f0.size) s.size
def onR (r : T174) (s : ByteArray) : Nat → Nat → List ByteArray
  | 0, _ => []
  | m + 1, k => cond (hit r s k) (put r s k :: onR r s m (k + 1)) (onR r s m (k + 1))
theorem onR_len {r : T174} {s : ByteArray} : ∀ m k, (onR r s m k).length ≤ m
  | 0, k => Nat.le_refl _
  | m + 1, k => by
    have := onR_len (r := r) (s := s) m (k + 1)
    unfold onR
    cases hit r s k
    · simp only [cond_false]; omega
    · simp only [cond_true, List.length_cons]; omega
theorem onR_none {r : T174} {s : ByteArray} : ∀ m k, s.size < k + r.f0.size → onR r s m k = []
  | 0, k, _ => rfl
  | m + 1, k, h => by
    unfold onR
    rw [show hit r s k = false from by unfold hit; rw [decide_eq_false (by omega), Bool.false_and], cond_false]
    exact onR_none m (k + 1) (by omega)
theorem F140_p1 {r : T174} {s : ByteArray} {v14 : List T174} {v15 v16 : Int} (hs : s.size ≤ 100000) (h0 : r.f0.size ≤ 100000) (h1 : r.f1.size ≤ 100000) : ∀ (m k n : Nat) (out : List ByteArray), k + m = s.size → m < n → out.length + m ≤ 10000000 → F140.p1 N s r.f0 r.f1 v14 v15 v16 n out (k : Int) = some (out ++ onR r s m k)
  | 0, k, n + 1, out, h, _, _ => by
    rw [F140.p1, lt_F (by omega), cond_false, onR, List.append_nil]
  | m + 1, k, n + 1, out, h, hn, ho => by
    rw [F140.p1, lt_T (by omega), cond_true, F208_fn (by omega) (by omega) (by omega), Option.bind_some, onR, w64_nat (by omega)]
    show cond (hit r s k) _ _ = _
    cases g : hit r s k with
    | false =>
      rw [cond_false, cond_false]
      exact F140_p1 hs h0 h1 m (k + 1) n out (by omega) (by omega) (by omega)
    | true =>
      have g1 : k + r.f0.size ≤ s.size := by unfold hit at g; simp only [Bool.and_eq_true, decide_eq_true_eq] at g; exact g.1
      rw [cond_true, cond_true, toN_nat, Option.bind_some, chk_T (by omega), Option.bind_some, chk_T (by rw [ByteArray.size_extract]; omega), Option.bind_some, w64_id (by omega) (by omega), toN_eq (k := k + r.f0.size) (by omega), Option.bind_some, chk_T g1, Option.bind_some, chk_T (by rw [ByteArray.size_append, ByteArray.size_extract, ByteArray.size_extract]; omega), Option.bind_some, chk_T (by omega), Option.bind_some]
      rw [F140_p1 hs h0 h1 m (k + 1) n _ (by omega) (by omega) (by rw [List.length_append, List.length_singleton]; omega), List.append_assoc]
      rfl
theorem F211_fn {s t : ByteArray} {k : Nat} (h : k + t.size ≤ s.size) : F211.fn N (s.extract k s.size) t = some (sEq (s.extract k (k + t.size)) t) := by
  have e : (s.extract k s.size).size = s.size - k := by rw [ByteArray.size_extract]; omega
  rw [F211.fn, F255.fn, e, decide_eq_true (by omega), cond_true, chk_T (by omega), Option.bind_some, Option.bind_some, ext2 h]
theorem F145_p1 {r : T174} {s : ByteArray} {v14 : List T174} {v15 v16 : Int} (hs : s.size ≤ 100000) (h0 : r.f0.size ≤ 100000) (h1 : r.f1.size ≤ 100000) (hp : 1 ≤ r.f0.size) : ∀ (m k n : Nat) (out : List ByteArray), k + m = s.size → m < n → out.length + m ≤ 10000000 → F145_146.p1 N s r.f0 r.f1 v14 v15 v16 n out (k : Int) = some (.inr (out ++ onR r s m k))
  | m, k, n + 1, out, h, hn, ho => by
    have e : w64 ((k : Int) + (r.f0.size : Int)) = ((k + r.f0.size : Nat) : Int) := by rw [w64_id (by omega) (by omega)]; omega
    rw [F145_146.p1, e]
    by_cases g1 : k + r.f0.size ≤ s.size
    · obtain ⟨m, rfl⟩ : ∃ q, m = q + 1 := ⟨m - 1, by omega⟩
      rw [decide_eq_true (by omega), cond_true, toN_nat, Option.bind_some, chk_T (by omega), Option.bind_some, F211_fn g1, Option.bind_some, onR, w64_nat (by omega)]
      have e2 : sEq (s.extract k (k + r.f0.size)) r.f0 = hit r s k := by unfold hit; rw [decide_eq_true g1, Bool.true_and]
      rw [e2]
      cases g : hit r s k with
      | false =>
        rw [cond_false, cond_false]
        exact F145_p1 hs h0 h1 hp m (k + 1) n out (by omega) (by omega) (by omega)
      | true =>
        rw [cond_true, cond_true, chk_T (by rw [ByteArray.size_extract]; omega), Option.bind_some, toN_nat, Option.bind_some, chk_T g1, Option.bind_some, chk_T (by rw [ByteArray.size_append, ByteArray.size_extract, ByteArray.size_extract]; omega), Option.bind_some, F146.fn, chk_T (by omega), Option.bind_some, Option.bind_some]
        simp only [Bool.not_true, cond_false]
        rw [F145_p1 hs h0 h1 hp m (k + 1) n _ (by omega) (by omega) (by rw [List.length_append, List.length_singleton]; omega), List.append_assoc]
        rfl
    · rw [decide_eq_false (by omega), cond_false, onR_none _ _ (by omega), List.append_nil]
end Go.Eng
set_option linter.unusedVariables false
set_option linter.unusedSimpArgs false
namespace Go.Eng
variable {N : Nat}
def d (s : ByteArray) : Str := s.data.toList
theorem d_inj {a b : ByteArray} (h : d a = d b) : a = b := ByteArray.ext (Array.toList_inj.1 h)
theorem d_len {a : ByteArray} : (d a).length = a.size := rfl
theorem sEq_d {a b : ByteArray} : sEq a b = decide (d a = d b) := by
  unfold sEq d
  rw [ByteArray.toList_eq, ByteArray.toList_eq, Bool.eq_iff_iff, decide_eq_true_iff, beq_iff_eq]
theorem sEq_iff {a b : ByteArray} : sEq a b = true ↔ a = b := by
  rw [sEq_d, decide_eq_true_iff]
  exact ⟨d_inj, fun h => by rw [h]⟩
theorem sEq_self {a : ByteArray} : sEq a a = true := sEq_iff.2 rfl
instance (a b : Str) : Decidable (Less a b) := by unfold Less; infer_instance
theorem sLt_val {a b : ByteArray} (h : a.size = b.size) : sLt a b = decide (val (d a) < val (d b)) := by
  unfold sLt
  rw [ByteArray.toList_eq, ByteArray.toList_eq, Bool.eq_iff_iff, decide_eq_true_iff]
  exact less_val _ _ h
theorem F22_fn {a b : ByteArray} : F22.fn N a b = some (decide (Less (d a) (d b))) := by
  unfold F22.fn Less
  simp only [d_len]
  by_cases h : a.size = b.size
  · rw [decide_eq_true (by omega), Bool.not_true, cond_false, sLt_val h]
    congr 2
    simp [h]
  · rw [decide_eq_false (by omega), Bool.not_false, cond_true]
    congr 2
    simp [h]
theorem F139_fn {a b : ByteArray} : F139.fn N a b = some (decide (Less (d a) (d b))) := by
  unfold F139.fn Less
  simp only [d_len]
  by_cases g : a.size < b.size
  · rw [decide_eq_true (by omega), cond_true]
    congr 1
    simp [g]
  · rw [decide_eq_false (by omega), cond_false]
    by_cases h : a.size = b.size
    · rw [decide_eq_true (by omega), cond_true, sLt_val h]
      congr 2
      simp [h]
    · rw [decide_eq_false (by omega), cond_false]
      congr 1
      simp [h, g]
/-! letters -/
def let1 (b : UInt8) : Bool := decide (97 ≤ b.toNat ∧ b.toNat ≤ 100)
theorem bt_d {s : ByteArray} {j : Nat} (h : j < s.size) : bt s j = (((d s).getD j 0).toNat : Int) := by
  unfold bt d
  rw [getElem?_pos s j h, List.getD, List.getElem?_eq_getElem (by exact h)]
  rfl
theorem F138_p {s : ByteArray} {most : Int} (hs : s.size < 140737488355328) : ∀ (t : Str) (k n : Nat), (d s).drop k = t → k ≤ s.size → t.length < n → F138.p0 N s most (s.size : Int) n (k : Int) = some (cond (t.all let1) (.inr ()) (.inl ()))
  | [], k, n + 1, h, hk, _ => by
    obtain rfl : k = s.size := drop_nil_F h hk
    rw [F138.p0, lt_F (Nat.le_refl _), cond_false]
    rfl
  | x :: t, k, n + 1, h, hk, hn => by
    obtain ⟨h1, h2, h3⟩ := drop_cons_F (d := 0) h
    rw [d_len] at h1
    rw [F138.p0, lt_T h1, cond_true, idx_nat h1, Option.bind_some, bt_d h1, h2, w64_nat (by omega), List.all_cons]
    by_cases g : x.toNat < 97
    · rw [decide_eq_true (by omega), cond_true, show let1 x = false from decide_eq_false (by omega)]
      rfl
    · rw [decide_eq_false (by omega), cond_false]
      by_cases g2 : x.toNat > 100
      · rw [decide_eq_true (by omega), cond_true, show let1 x = false from decide_eq_false (by omega)]
        rfl
      · rw [decide_eq_false (by omega), cond_false, show let1 x = true from decide_eq_true (by omega)]
        exact F138_p hs t (k + 1) n h3 (by omega) (by simpa using hn)
theorem F78_p {s : ByteArray} {most : Int} (hs : s.size < 140737488355328) : ∀ (t : Str) (k n : Nat), (d s).drop k = t → k ≤ s.size → t.length < n → F78.p0 N s most n (k : Int) = some (cond (t.all let1) (.inr ()) (.inl ()))
  | [], k, n + 1, h, hk, _ => by
    obtain rfl : k = s.size := drop_nil_F h hk
    rw [F78.p0, lt_F (Nat.le_refl _), cond_false]
    rfl
  | x :: t, k, n + 1, h, hk, hn => by
    obtain ⟨h1, h2, h3⟩ := drop_cons_F (d := 0) h
    rw [d_len] at h1
    rw [F78.p0, lt_T h1, cond_true, idx_nat h1, Option.bind_some, bt_d h1, h2, w64_nat (by omega), List.all_cons]
    by_cases g : x.toNat < 97
    · rw [decide_eq_true (by omega), cond_true, show let1 x = false from decide_eq_false (by omega)]
      rfl
    · rw [decide_eq_false (by omega), cond_false]
      by_cases g2 : x.toNat > 100
      · rw [decide_eq_true (by omega), cond_true, show let1 x = false from decide_eq_false (by omega)]
        rfl
      · rw [decide_eq_false (by omega), cond_false, show let1 x = true from decide_eq_true (by omega)]
        exact F78_p hs t (k + 1) n h3 (by omega) (by simpa using hn)
def lets (most : Int) (s : ByteArray) : Bool := (d s).all let1 && decide ((s.size : Int) ≤ most)
theorem F138_fn (hN : 140737488355328 ≤ N) {s : ByteArray} {most : Int} (hs : s.size < 140737488355328) : F138.fn N s most = some (lets most s) := by
  have e : F138.p0 N s most (s.size : Int) N (0 : Int) = _ := F138_p (N := N) hs (d s) 0 N rfl (Nat.zero_le _) (by rw [d_len]; omega)
  rw [F138.fn, e, Option.bind_some]
  unfold lets
  cases (d s).all let1 <;> rfl
theorem F78_fn (hN : 140737488355328 ≤ N) {s : ByteArray} {most : Int} (hs : s.size < 140737488355328) : F78.fn N s most = some (lets most s) := by
  have e : F78.p0 N s most N (0 : Int) = _ := F78_p (N := N) hs (d s) 0 N rfl (Nat.zero_le _) (by rw [d_len]; omega)
  rw [F78.fn, e, Option.bind_some]
  unfold lets
  cases (d s).all let1 <;> rfl
/-! rules -/
def gR1 (r : T174) : Bool := !sEq r.f0 ByteArray.empty && (lets 6 r.f0 && (lets 6 r.f1 && decide (Less (d r.f1) (d r.f0))))
/-- The texts of a rule are no longer than a text may be. -/
def szR (r : T174) : Prop := r.f0.size < 140737488355328 ∧ r.f1.size < 140737488355328
theorem F142_fn (hN : 140737488355328 ≤ N) {r : T174} (h : szR r) : F142.fn N r = some (!gR1 r) := by
  rw [F142.fn, F138_fn hN h.1, Option.bind_some, F138_fn hN h.2, Option.bind_some, F22_fn, Option.bind_some]
  unfold gR1
  cases sEq r.f0 ByteArray.empty <;> cases lets 6 r.f0 <;> cases lets 6 r.f1 <;> rfl
theorem F77_p1 (hN : 140737488355328 ≤ N) {r : T174} (h : szR r) {l8 v11 : List T174} {v12 v13 : Int} : F77.p1 N l8 r.f0 r.f1 v11 v12 v13 = some (!gR1 r) := by
  rw [F77.p1, F78_fn hN h.1, Option.bind_some, F78_fn hN h.2, Option.bind_some, F139_fn, Option.bind_some]
  unfold gR1
  cases sEq r.f0 ByteArray.empty <;> cases lets 6 r.f0 <;> cases lets 6 r.f1 <;> rfl
theorem F209_p (hN : 140737488355328 ≤ N) {v : List T174} (hv : v.length < 140737488355328) (ho : ∀ x ∈ v, szR x) : ∀ (t : List T174) (k n : Nat), v.drop k = t → k ≤ v.length → t.length < n → ∃ r, F209_142.p0 N v (v.length : Int) n (k : Int) = some r ∧ (t.all gR1 = true → r = .inr ()) ∧ (t.all gR1 = false → ∃ j : Nat, r = .inl (j : Int))
  | [], k, n + 1, h, hk, _ => by
    obtain rfl := drop_nil_F h hk
    exact ⟨.inr (), by rw [F209_142.p0, lt_F (Nat.le_refl _), cond_false], fun _ => rfl, fun h => by cases h⟩
  | x :: t, k, n + 1, h, hk, hn => by
    obtain ⟨h1, h2, h3⟩ := drop_cons_F (d := default) h
    rw [F209_142.p0, lt_T h1, cond_true, idx_nat h1, Option.bind_some, h2, F142_fn hN (ho x (List.mem_of_mem_drop (h ▸ List.mem_cons_self))), Option.bind_some, w64_nat (by omega), List.all_cons]
    cases gR1 x with
    | true => exact F209_p hN hv ho t (k + 1) n h3 (by omega) (by simpa using hn)
    | false => exact ⟨_, rfl, (fun h => by cases h), fun _ => ⟨k, rfl⟩⟩
def gR (l : List T174) : Bool := decide ((l.length : Int) ≤ 8) && l.all gR1
theorem F80_fn (hN : 140737488355328 ≤ N) {l : List T174} (hl : l.length < 140737488355328) (ho : ∀ x ∈ l, szR x) : F80.fn N l = some (gR l) := by
  obtain ⟨r, e, h1, h2⟩ := F209_p hN hl ho l 0 N rfl (Nat.zero_le _) (by omega)
  have e : F209_142.p0 N l (l.length : Int) N (0 : Int) = some r := e
  rw [F80.fn, F141_142.fn, F209_142.fn, e, Option.bind_some]
  unfold gR
  cases g : l.all gR1 with
  | true => rw [h1 g]; cases decide ((l.length : Int) ≤ 8) <;> rfl
  | false =>
    obtain ⟨j, rfl⟩ := h2 g
    simp only [Sum.elim_inl, Option.bind_some]
    rw [decide_eq_true (p := (j : Int) ≥ 0) (by omega)]
    cases decide ((l.length : Int) ≤ 8) <;> rfl
theorem F77_p (hN : 140737488355328 ≤ N) {l v : List T174} (hv : v.length < 140737488355328) (ho : ∀ x ∈ v, szR x) : ∀ (t : List T174) (k n : Nat), v.drop k = t → k ≤ v.length → t.length < n → F77.p0 N l v (v.length : Int) n (k : Int) = some (cond (t.all gR1) (.inr ()) (.inl ()))
  | [], k, n + 1, h, hk, _ => by
    obtain rfl := drop_nil_F h hk
    rw [F77.p0, lt_F (Nat.le_refl _), cond_false]
    rfl
  | x :: t, k, n + 1, h, hk, hn => by
    obtain ⟨h1, h2, h3⟩ := drop_cons_F (d := default) h
    rw [F77.p0, lt_T h1, cond_true, idx_nat h1, Option.bind_some, h2, F77_p1 hN (ho x (List.mem_of_mem_drop (h ▸ List.mem_cons_self))), Option.bind_some, w64_nat (by omega), List.all_cons]
    cases gR1 x
    · rfl
    · exact F77_p hN hv ho t (k + 1) n h3 (by omega) (by simpa using hn)
theorem F77_fn (hN : 140737488355328 ≤ N) {l : List T174} (hl : l.length < 140737488355328) (ho : ∀ x ∈ l, szR x) : F77.fn N l = some (gR l) := by
  have e : F77.p0 N l l (l.length : Int) N (0 : Int) = _ := F77_p hN hl ho l 0 N rfl (Nat.zero_le _) (by omega)
  rw [F77.fn, e, Option.bind_some]
  unfold gR
  cases l.all gR1 <;> cases decide ((l.length : Int) ≤ 8) <;> rfl
end Go.Eng
set_option linter.unusedVariables false
set_option linter.unusedSimpArgs false
namespace Go.Eng
variable {N : Nat}
structure GoodR (r : T174) : Prop where
  p : 1 ≤ r.f0.size
  q : r.f0.size ≤ 6
  w : r.f1.size ≤ r.f0.size
  l : (d r.f1).all let1 = true
  less : Less (d r.f1) (d r.f0)
theorem good_of {r : T174} (h : gR1 r = true) : GoodR r := by
  unfold gR1 lets at h
  simp only [Bool.and_eq_true, Bool.not_eq_true', decide_eq_true_eq] at h
  obtain ⟨h0, ⟨_, h1⟩, ⟨h2, _⟩, h3⟩ := h
  have hp : 1 ≤ r.f0.size := by
    rcases Nat.eq_zero_or_pos r.f0.size with g | g
    · have : r.f0 = ByteArray.empty := d_inj (by
        have : (d r.f0).length = 0 := g
        rw [List.eq_nil_of_length_eq_zero this]
        rfl)
      rw [this, sEq_self] at h0
      cases h0
    · exact g
  refine ⟨hp, by omega, ?_, h2, h3⟩
  have h3' := h3
  unfold Less at h3'
  simp only [d_len] at h3'
  omega
structure GoodL (l : List T174) : Prop where
  n : l.length ≤ 8
  r : ∀ x ∈ l, GoodR x
theorem goodL_of {l : List T174} (h : gR l = true) : GoodL l := by
  unfold gR at h
  simp only [Bool.and_eq_true, decide_eq_true_eq, List.all_eq_true] at h
  exact ⟨by omega, fun x hx => good_of (h.2 x hx)⟩
def onL (l : List T174) (s : ByteArray) : List ByteArray := l.flatMap fun r => onR r s s.size 0
theorem onL_len {s : ByteArray} : ∀ l : List T174, (onL l s).length ≤ l.length * s.size
  | [] => Nat.zero_le _
  | r :: l => by
    have h1 := onR_len (r := r) (s := s) s.size 0
    have h2 := onL_len (s := s) l
    simp only [onL, List.flatMap_cons, List.length_append, List.length_cons, Nat.add_mul, Nat.one_mul] at h2 ⊢
    omega
theorem F140_p0 (hN : 140737488355328 ≤ N) {l : List T174} (hl : GoodL l) {s : ByteArray} (hs : s.size ≤ 100000) : ∀ (t : List T174) (k n : Nat) (out : List ByteArray), l.drop k = t → k ≤ l.length → t.length < n → out.length + t.length * s.size ≤ 1000000 → F140.p0 N s l (l.length : Int) n out (k : Int) = some (out ++ onL t s)
  | [], k, n + 1, out, h, hk, _, _ => by
    obtain rfl := drop_nil_F h hk
    rw [F140.p0, lt_F (Nat.le_refl _), cond_false]
    simp [onL]
  | r :: t, k, n + 1, out, h, hk, hn, ho => by
    obtain ⟨h1, h2, h3⟩ := drop_cons_F (d := default) h
    have hr := hl.r r (List.mem_of_mem_drop (h ▸ List.mem_cons_self))
    have := hl.n
    have := hr.q
    have := hr.w
    have e := onR_len (r := r) (s := s) s.size 0
    simp only [List.length_cons, Nat.add_mul, Nat.one_mul] at ho hn
    have e1 : F140.p1 N s r.f0 r.f1 l (l.length : Int) (k : Int) N out (0 : Int) = _ := F140_p1 hs (by omega) (by omega) s.size 0 N out (by omega) (by omega) (by omega)
    rw [F140.p0, lt_T h1, cond_true, idx_nat h1, Option.bind_some, h2, e1, Option.bind_some, w64_nat (by omega)]
    rw [F140_p0 hN hl hs t (k + 1) n _ h3 (by omega) (by omega) (by rw [List.length_append]; omega), List.append_assoc]
    rfl
theorem F140_fn (hN : 140737488355328 ≤ N) {l : List T174} (hl : GoodL l) {s : ByteArray} (hs : s.size ≤ 100000) : F140.fn N l s = some (onL l s) := by
  have hn := hl.n
  have : l.length * s.size ≤ 8 * 100000 := Nat.mul_le_mul hn hs
  have e : F140.p0 N s l (l.length : Int) N [] (0 : Int) = _ := F140_p0 hN hl hs l 0 N [] rfl (Nat.zero_le _) (by omega) (by simp only [List.length_nil]; omega)
  rw [F140.fn, e, Option.bind_some, List.nil_append]
theorem F145_p0 (hN : 140737488355328 ≤ N) {l : List T174} (hl : GoodL l) {s : ByteArray} (hs : s.size ≤ 100000) : ∀ (t : List T174) (k n : Nat) (out : List ByteArray), l.drop k = t → k ≤ l.length → t.length < n → out.length + t.length * s.size ≤ 1000000 → F145_146.p0 N s l (l.length : Int) n out (k : Int) = some (.inr (out ++ onL t s))
  | [], k, n + 1, out, h, hk, _, _ => by
    obtain rfl := drop_nil_F h hk
    rw [F145_146.p0, lt_F (Nat.le_refl _), cond_false]
    simp [onL]
  | r :: t, k, n + 1, out, h, hk, hn, ho => by
    obtain ⟨h1, h2, h3⟩ := drop_cons_F (d := default) h
    have hr := hl.r r (List.mem_of_mem_drop (h ▸ List.mem_cons_self))
    have := hl.n
    have := hr.q
    have := hr.w
    have e := onR_len (r := r) (s := s) s.size 0
    simp only [List.length_cons, Nat.add_mul, Nat.one_mul] at ho hn
    have e1 : F145_146.p1 N s r.f0 r.f1 l (l.length : Int) (k : Int) N out (0 : Int) = _ := F145_p1 hs (by omega) (by omega) hr.p s.size 0 N out (by omega) (by omega) (by omega)
    rw [F145_146.p0, lt_T h1, cond_true, idx_nat h1, Option.bind_some, h2, e1, Option.bind_some, w64_nat (by omega)]
    simp only [Sum.elim_inr]
    rw [F145_p0 hN hl hs t (k + 1) n _ h3 (by omega) (by omega) (by rw [List.length_append]; omega), List.append_assoc]
    rfl
theorem F83_fn (hN : 140737488355328 ≤ N) {l : List T174} (hl : GoodL l) {s : ByteArray} (hs : s.size ≤ 100000) : F83.fn N l s = some (onL l s) := by
  have hn := hl.n
  have : l.length * s.size ≤ 8 * 100000 := Nat.mul_le_mul hn hs
  have e : F145_146.p0 N s l (l.length : Int) N [] (0 : Int) = _ := F145_p0 hN hl hs l 0 N [] rfl (Nat.zero_le _) (by omega) (by simp only [List.length_nil]; omega)
  rw [F83.fn, F145_146.fn, e, Option.bind_some, List.nil_append]
  rfl
/-! the sizes do not grow -/
theorem putR_size {r : T174} {s : ByteArray} {k : Nat} (h : GoodR r) (hh : hit r s k = true) : (put r s k).size ≤ s.size := by
  have := h.w
  unfold hit at hh
  simp only [Bool.and_eq_true, decide_eq_true_eq] at hh
  unfold put
  simp only [ByteArray.size_append, ByteArray.size_extract]
  omega
theorem onR_mem {r : T174} {s x : ByteArray} : ∀ m k, x ∈ onR r s m k → ∃ j, k ≤ j ∧ j < k + m ∧ hit r s j = true ∧ x = put r s j
  | 0, k, h => by cases h
  | m + 1, k, h => by
    unfold onR at h
    cases g : hit r s k with
    | false =>
      rw [g, cond_false] at h
      obtain ⟨j, h1, h2, h3⟩ := onR_mem m (k + 1) h
      exact ⟨j, by omega, by omega, h3⟩
    | true =>
      rw [g, cond_true] at h
      rcases List.mem_cons.1 h with e | h
      · exact ⟨k, Nat.le_refl _, by omega, g, e⟩
      · obtain ⟨j, h1, h2, h3⟩ := onR_mem m (k + 1) h
        exact ⟨j, by omega, by omega, h3⟩
theorem mem_onR {r : T174} {s : ByteArray} {j : Nat} (hj : hit r s j = true) : ∀ m k, k ≤ j → j < k + m → put r s j ∈ onR r s m k
  | 0, k, h1, h2 => by omega
  | m + 1, k, h1, h2 => by
    unfold onR
    rcases Nat.lt_or_ge k j with g | g
    · have := mem_onR hj m (k + 1) (by omega) (by omega)
      cases hit r s k
      · exact this
      · exact List.mem_cons_of_mem _ this
    · obtain rfl : k = j := by omega
      rw [hj, cond_true]
      exact List.mem_cons_self
theorem onL_size {l : List T174} (hl : GoodL l) {s x : ByteArray} (h : x ∈ onL l s) : x.size ≤ s.size := by
  obtain ⟨r, hr, hx⟩ := List.mem_flatMap.1 h
  obtain ⟨j, _, _, hh, rfl⟩ := onR_mem _ _ hx
  exact putR_size (hl.r r hr) hh
/-! to the end -/
def pickL (last : Bool) (o : List ByteArray) : ByteArray := cond last (o.getD (o.length - 1) ByteArray.empty) (o.getD 0 ByteArray.empty)
def runN (l : List T174) (last : Bool) : Nat → ByteArray → Int → ByteArray × Int × Bool
  | 0, s, n => cond (decide (onL l s = [])) (s, n, true) (ByteArray.empty, 0, false)
  | m + 1, s, n => cond (decide (onL l s = [])) (s, n, true) (runN l last m (pickL last (onL l s)) (n + 1))
theorem getD_mem {l : List ByteArray} {j : Nat} (h : j < l.length) : l.getD j ByteArray.empty ∈ l := by
  rw [List.getD, List.getElem?_eq_getElem h]
  exact List.getElem_mem h
theorem pickL_mem {last : Bool} {o : List ByteArray} (h : o ≠ []) : pickL last o ∈ o := by
  have : 0 < o.length := List.length_pos_iff.2 h
  unfold pickL
  cases last
  · exact getD_mem this
  · exact getD_mem (by omega)
theorem F76_p (hN : 140737488355328 ≤ N) {l : List T174} (hl : GoodL l) {last : Bool} : ∀ (m n k : Nat) (s : ByteArray), k + m = 400 → m < n → s.size ≤ 100000 → F76.p0 N l last n s (k : Int) = some (runN l last m s (k : Int))
  | m, n + 1, k, s, hk, hn, hs => by
    have hlen := onL_len (s := s) l
    have h8 : l.length * s.size ≤ 8 * 100000 := Nat.mul_le_mul hl.n hs
    rw [F76.p0, F83_fn hN hl hs, Option.bind_some]
    by_cases g : onL l s = []
    · rw [g, decide_eq_true (by simp), cond_true]
      cases m <;> simp [runN, g]
    · have hp : 0 < (onL l s).length := List.length_pos_iff.2 g
      have hz := onL_size hl (pickL_mem (last := last) g)
      rw [decide_eq_false (by omega), cond_false]
      cases m with
      | zero =>
        rw [decide_eq_true (by omega), cond_true]
        simp [runN, g]
      | succ m =>
        rw [decide_eq_false (by omega), cond_false, w64_nat (by omega), w64_id (by omega) (by omega)]
        have ih := F76_p hN hl (last := last) m n (k + 1) (pickL last (onL l s)) (by omega) (by omega) (by omega)
        have e : runN l last (m + 1) s (k : Int) = runN l last m (pickL last (onL l s)) ((k + 1 : Nat) : Int) := by
          simp only [runN, decide_eq_false g, cond_false]
          rfl
        rw [e, ← ih]
        have i1 : idx (((onL l s).length : Int) - 1) (onL l s).length = some ((onL l s).length - 1) := by
          have := idx_nat (k := (onL l s).length - 1) (n := (onL l s).length) (by omega)
          rwa [show (((onL l s).length - 1 : Nat) : Int) = ((onL l s).length : Int) - 1 from by omega] at this
        have i0 : idx 0 (onL l s).length = some 0 := idx_nat (k := 0) hp
        cases last
        · rw [cond_false, i0, Option.bind_some]; rfl
        · rw [cond_true, i1, Option.bind_some]; rfl
theorem F76_fn (hN : 140737488355328 ≤ N) {l : List T174} (hl : GoodL l) {last : Bool} {s : ByteArray} (hs : s.size ≤ 100000) : F76.fn N l s last = some (runN l last 400 s 0) := by
  have e : F76.p0 N l last N s (0 : Int) = some (runN l last 400 s 0) := F76_p hN hl 400 N 0 s rfl (by omega) hs
  rw [F76.fn, e, Option.bind_some]
theorem F79_p (hN : 140737488355328 ≤ N) {l : List T174} (hl : GoodL l) {last : Bool} : ∀ (m n k : Nat) (s : ByteArray), k + m = 400 → m + 1 < n → s.size ≤ 100000 → ∃ r, F79.p0 N l last n s (k : Int) = some r ∧ Sum.elim (fun y : ByteArray × Int => (y.1, y.2, true)) (fun _ => (ByteArray.empty, 0, false)) r = runN l last m s (k : Int)
  | m, n + 1, k, s, hk, hn, hs => by
    have hlen := onL_len (s := s) l
    have h8 : l.length * s.size ≤ 8 * 100000 := Nat.mul_le_mul hl.n hs
    rw [F79.p0, decide_eq_true (by omega), cond_true, F140_fn hN hl hs, Option.bind_some]
    by_cases g : onL l s = []
    · rw [g, decide_eq_true (by simp), cond_true]
      exact ⟨_, rfl, by cases m <;> simp [runN, g]⟩
    · have hp : 0 < (onL l s).length := List.length_pos_iff.2 g
      have hz := onL_size hl (pickL_mem (last := last) g)
      have i1 : idx (((onL l s).length : Int) - 1) (onL l s).length = some ((onL l s).length - 1) := by
        have := idx_nat (k := (onL l s).length - 1) (n := (onL l s).length) (by omega)
        rwa [show (((onL l s).length - 1 : Nat) : Int) = ((onL l s).length : Int) - 1 from by omega] at this
      have i0 : idx 0 (onL l s).length = some 0 := idx_nat (k := 0) hp
      have hpk : cond last ((idx (w64 (((onL l s).length : Int) - 1)) (onL l s).length).bind fun j12 => F79.p0 N l last n ((onL l s).getD j12 ByteArray.empty) (w64 ((k : Int) + 1))) (F79.p0 N l last n ((onL l s).getD 0 ByteArray.empty) (w64 ((k : Int) + 1))) = F79.p0 N l last n (pickL last (onL l s)) ((k + 1 : Nat) : Int) := by
        rw [w64_nat (by omega), w64_id (by omega) (by omega)]
        cases last
        · rfl
        · rw [cond_true, i1, Option.bind_some]; rfl
      rw [decide_eq_false (by omega), cond_false, i0, Option.bind_some, hpk]
      cases m with
      | zero =>
        obtain ⟨n, rfl⟩ : ∃ q, n = q + 1 := ⟨n - 1, by omega⟩
        refine ⟨.inr (), by rw [F79.p0, decide_eq_false (by omega), cond_false], by simp [runN, g]⟩
      | succ m =>
        obtain ⟨r, e, hr⟩ := F79_p hN hl (last := last) m n (k + 1) (pickL last (onL l s)) (by omega) (by omega) (by omega)
        refine ⟨r, e, ?_⟩
        rw [hr]
        simp only [runN, decide_eq_false g, cond_false]
        rfl
theorem F79_fn (hN : 140737488355328 ≤ N) {l : List T174} (hl : GoodL l) {last : Bool} {s : ByteArray} (hs : s.size ≤ 100000) : F79.fn N l s last = some (runN l last 400 s 0) := by
  obtain ⟨r, e, hr⟩ := F79_p hN hl (last := last) 400 N 0 s rfl (by omega) hs
  have e : F79.p0 N l last N s (0 : Int) = some r := e
  have hr : _ = runN l last 400 s 0 := hr
  rw [F79.fn, e, Option.bind_some, ← hr]
  cases r <;> rfl
end Go.Eng
set_option linter.unusedVariables false
set_option linter.unusedSimpArgs false
namespace Go.Eng
variable {N : Nat}
def ovA (a b : T174) (n : Nat) : Bool := sEq (a.f0.extract (a.f0.size - n) a.f0.size) (b.f0.extract 0 n)
def ovP (a b : T174) (n : Nat) : List ByteArray := [a.f1 ++ b.f0.extract n b.f0.size, a.f0.extract 0 (a.f0.size - n) ++ b.f1]
def ovL (a b : T174) : Nat → Nat → List (List ByteArray)
  | 0, _ => []
  | m + 1, n => cond (ovA a b n) (ovP a b n :: ovL a b m (n + 1)) (ovL a b m (n + 1))
theorem ovL_len {a b : T174} : ∀ m n, (ovL a b m n).length ≤ m
  | 0, n => Nat.le_refl _
  | m + 1, n => by
    have := ovL_len (a := a) (b := b) m (n + 1)
    unfold ovL
    cases ovA a b n
    · simp only [cond_false]; omega
    · simp only [cond_true, List.length_cons]; omega
theorem F210_fn {s t : ByteArray} (hs : s.size ≤ 100000) (h : t.size ≤ s.size) : F210.fn N s t = some (sEq (s.extract (s.size - t.size) s.size) t) := by
  rw [F210.fn, F254.fn, decide_eq_true (by omega), cond_true, w64_id (by omega) (by omega), toN_eq (k := s.size - t.size) (by omega), Option.bind_some, chk_T (by omega), Option.bind_some, Option.bind_some]
theorem minI {x y : Nat} : (if (x : Int) < (y : Int) then (x : Int) else (y : Int)) = ((min x y : Nat) : Int) := by
  split <;> omega
theorem F143_p0 {a b : T174} {same : Bool} (ha : GoodR a) (hb : GoodR b) : ∀ (m n f : Nat) (out : List (List ByteArray)), n + m = min b.f0.size a.f0.size → m < f → out.length + m ≤ 1000000 → F143.p0 N same a.f0 a.f1 b.f0 b.f1 f out (n : Int) = some (out ++ ovL a b m n)
  | 0, n, f + 1, out, h, _, _ => by
    rw [F143.p0, minI, decide_eq_false (by omega), cond_false, ovL, List.append_nil]
  | m + 1, n, f + 1, out, h, hf, ho => by
    have := ha.q; have := ha.w; have := hb.q; have := hb.w
    have e : (b.f0.extract 0 n).size = n := by rw [ByteArray.size_extract]; omega
    rw [F143.p0, minI, decide_eq_true (by omega), cond_true, toN_nat, Option.bind_some, chk_T (by omega), Option.bind_some, F210_fn (by omega) (by omega), Option.bind_some, e, ovL, w64_nat (by omega)]
    show cond (ovA a b n) _ _ = _
    cases ovA a b n with
    | false =>
      rw [cond_false, cond_false]
      exact F143_p0 ha hb m (n + 1) f out (by omega) (by omega) (by omega)
    | true =>
      rw [cond_true, cond_true, chk_T (by rw [ByteArray.size_extract]; omega), Option.bind_some, w64_id (by omega) (by omega), toN_eq (k := a.f0.size - n) (by omega), Option.bind_some, chk_T (by omega), Option.bind_some, chk_T (by rw [ByteArray.size_extract]; omega), Option.bind_some, chk_T (by omega), Option.bind_some]
      rw [F143_p0 ha hb m (n + 1) f _ (by omega) (by omega) (by rw [List.length_append, List.length_singleton]; omega), List.append_assoc]
      rfl
theorem F144_p0 {a b : T174} {same : Bool} (ha : GoodR a) (hb : GoodR b) : ∀ (m n f : Nat) (out : List (List ByteArray)), n + m = min b.f0.size a.f0.size → m < f → out.length + m ≤ 1000000 → F144.p0 N same a.f0 a.f1 b.f0 b.f1 f out (n : Int) = some (out ++ ovL a b m n)
  | 0, n, f + 1, out, h, _, _ => by
    have e : F144.p1 N same a.f0 a.f1 b.f0 b.f1 out (n : Int) = some false := by
      rw [F144.p1]
      by_cases g : n < a.f0.size
      · rw [decide_eq_true (by omega), cond_true, decide_eq_false (by omega)]
      · rw [decide_eq_false (by omega), cond_false]
    rw [F144.p0, e, Option.bind_some, cond_false, ovL, List.append_nil]
  | m + 1, n, f + 1, out, h, hf, ho => by
    have := ha.q; have := ha.w; have := hb.q; have := hb.w
    have e : F144.p1 N same a.f0 a.f1 b.f0 b.f1 out (n : Int) = some true := by
      rw [F144.p1, decide_eq_true (by omega), cond_true, decide_eq_true (by omega)]
    rw [F144.p0, e, Option.bind_some, cond_true, w64_id (by omega) (by omega), toN_eq (k := a.f0.size - n) (by omega), Option.bind_some, chk_T (by omega), Option.bind_some, toN_nat, Option.bind_some, chk_T (by omega), Option.bind_some, ovL, w64_nat (by omega)]
    show cond (ovA a b n) _ _ = _
    cases ovA a b n with
    | false =>
      rw [cond_false, cond_false]
      exact F144_p0 ha hb m (n + 1) f out (by omega) (by omega) (by omega)
    | true =>
      rw [cond_true, cond_true, chk_T (by rw [ByteArray.size_extract]; omega), Option.bind_some, chk_T (by rw [ByteArray.size_extract]; omega), Option.bind_some, chk_T (by omega), Option.bind_some]
      rw [F144_p0 ha hb m (n + 1) f _ (by omega) (by omega) (by rw [List.length_append, List.length_singleton]; omega), List.append_assoc]
      rfl
def inP (a : T174) (x : ByteArray) : List ByteArray := [a.f1, x]
theorem F143_p1 {a b : T174} (ha : GoodR a) (hb : GoodR b) : ∀ (m k f : Nat) (out : List (List ByteArray)), k + m = a.f0.size → m < f → out.length + m ≤ 1000000 → F143.p1 N a.f0 a.f1 b.f0 b.f1 f out (k : Int) = some (out ++ (onR b a.f0 m k).map (inP a))
  | m, k, f + 1, out, h, hf, ho => by
    have := ha.q; have := ha.w; have := hb.q; have := hb.w; have := hb.p
    have e : w64 ((k : Int) + (b.f0.size : Int)) = ((k + b.f0.size : Nat) : Int) := by rw [w64_id (by omega) (by omega)]; omega
    rw [F143.p1, e]
    by_cases g1 : k + b.f0.size ≤ a.f0.size
    · obtain ⟨m, rfl⟩ : ∃ q, m = q + 1 := ⟨m - 1, by omega⟩
      rw [decide_eq_true (by omega), cond_true, toN_nat, Option.bind_some, chk_T (by omega), Option.bind_some, F211_fn g1, Option.bind_some, onR, w64_nat (by omega)]
      have e2 : sEq (a.f0.extract k (k + b.f0.size)) b.f0 = hit b a.f0 k := by unfold hit; rw [decide_eq_true g1, Bool.true_and]
      rw [e2]
      cases g : hit b a.f0 k with
      | false =>
        rw [cond_false, cond_false]
        exact F143_p1 ha hb m (k + 1) f out (by omega) (by omega) (by omega)
      | true =>
        rw [cond_true, cond_true, chk_T (by rw [ByteArray.size_extract]; omega), Option.bind_some, toN_nat, Option.bind_some, chk_T g1, Option.bind_some, chk_T (by rw [ByteArray.size_append, ByteArray.size_extract, ByteArray.size_extract]; omega), Option.bind_some, chk_T (by omega), Option.bind_some]
        rw [F143_p1 ha hb m (k + 1) f _ (by omega) (by omega) (by rw [List.length_append, List.length_singleton]; omega), List.append_assoc]
        rfl
    · rw [decide_eq_false (by omega), cond_false, onR_none _ _ (by omega), List.map_nil, List.append_nil]
theorem F144_p2 {a b : T174} {same : Bool} (ha : GoodR a) (hb : GoodR b) (hs : same = true → a = b) : ∀ (m k f : Nat) (out : List (List ByteArray)), k + m = a.f0.size → m < f → out.length + m ≤ 1000000 → F144.p2 N same a.f0 a.f1 b.f0 b.f1 f out (k : Int) = some (out ++ cond same [] ((onR b a.f0 m k).map (inP a)))
  | 0, k, f + 1, out, h, _, _ => by
    rw [F144.p2, lt_F (by omega), cond_false, onR]
    cases same <;> simp
  | m + 1, k, f + 1, out, h, hf, ho => by
    have := ha.q; have := ha.w; have := hb.q; have := hb.w; have := hb.p
    have e : F144.p3 N same a.f0 a.f1 b.f0 b.f1 out (k : Int) = some (hit b a.f0 k && !same) := by
      rw [F144.p3, F208_fn (by omega) (by omega) (by omega), Option.bind_some]
      show cond (hit b a.f0 k) _ _ = _
      cases g : same with
      | false => cases hit b a.f0 k <;> rfl
      | true =>
        have := hs g
        subst this
        rw [decide_eq_false (by omega)]
        cases hit a a.f0 k <;> rfl
    rw [F144.p2, lt_T (by omega), cond_true, e, Option.bind_some, onR, w64_nat (by omega)]
    cases g : hit b a.f0 k && !same with
    | false =>
      rw [cond_false, F144_p2 ha hb hs m (k + 1) f out (by omega) (by omega) (by omega)]
      cases same with
      | true => rfl
      | false =>
        cases h2 : hit b a.f0 k with
        | false => rfl
        | true => rw [h2] at g; cases g
    | true =>
      simp only [Bool.and_eq_true, Bool.not_eq_true'] at g
      obtain ⟨g2, rfl⟩ := g
      have g1 : k + b.f0.size ≤ a.f0.size := by unfold hit at g2; simp only [Bool.and_eq_true, decide_eq_true_eq] at g2; exact g2.1
      rw [cond_true, toN_nat, Option.bind_some, chk_T (by omega), Option.bind_some, chk_T (by rw [ByteArray.size_extract]; omega), Option.bind_some, w64_id (by omega) (by omega), toN_eq (k := k + b.f0.size) (by omega), Option.bind_some, chk_T g1, Option.bind_some, chk_T (by rw [ByteArray.size_append, ByteArray.size_extract, ByteArray.size_extract]; omega), Option.bind_some, chk_T (by omega), Option.bind_some]
      rw [F144_p2 ha hb hs m (k + 1) f _ (by omega) (by omega) (by rw [List.length_append, List.length_singleton]; omega), List.append_assoc, g2]
      rfl
/-- The critical pairs of a over b. -/
def crL (a b : T174) (same : Bool) : List (List ByteArray) := ovL a b (min b.f0.size a.f0.size - 1) 1 ++ cond same [] ((onR b a.f0 a.f0.size 0).map (inP a))
theorem crL_len {a b : T174} {same : Bool} (ha : GoodR a) : (crL a b same).length ≤ 12 := by
  have h1 := ovL_len (a := a) (b := b) (min b.f0.size a.f0.size - 1) 1
  have h2 := onR_len (r := b) (s := a.f0) a.f0.size 0
  have := ha.q
  unfold crL
  rw [List.length_append]
  cases same
  · simp only [cond_false, List.length_map]; omega
  · simp only [cond_true, List.length_nil]; omega
theorem F143_fn (hN : 140737488355328 ≤ N) {a b : T174} {same : Bool} (ha : GoodR a) (hb : GoodR b) : F143.fn N a b same = some (crL a b same) := by
  have := ha.q; have := ha.p; have := hb.p; have := hb.q
  have h1 := ovL_len (a := a) (b := b) (min b.f0.size a.f0.size - 1) 1
  have e : F143.p0 N same a.f0 a.f1 b.f0 b.f1 N [] (1 : Int) = _ := F143_p0 (same := same) ha hb (min b.f0.size a.f0.size - 1) 1 N [] (by omega) (by omega) (by simp only [List.length_nil]; omega)
  rw [F143.fn, e, Option.bind_some, List.nil_append]
  unfold crL
  cases same
  · have e2 : F143.p1 N a.f0 a.f1 b.f0 b.f1 N (ovL a b (min b.f0.size a.f0.size - 1) 1) (0 : Int) = _ := F143_p1 ha hb a.f0.size 0 N _ (by omega) (by omega) (by omega)
    rw [cond_false, e2, Option.bind_some, cond_false]
  · rw [cond_true, cond_true, List.append_nil]
theorem F144_fn (hN : 140737488355328 ≤ N) {a b : T174} {same : Bool} (ha : GoodR a) (hb : GoodR b) (hs : same = true → a = b) : F144.fn N a b same = some (crL a b same) := by
  have := ha.q; have := ha.p; have := hb.p; have := hb.q
  have h1 := ovL_len (a := a) (b := b) (min b.f0.size a.f0.size - 1) 1
  have e : F144.p0 N same a.f0 a.f1 b.f0 b.f1 N [] (1 : Int) = _ := F144_p0 (same := same) ha hb (min b.f0.size a.f0.size - 1) 1 N [] (by omega) (by omega) (by simp only [List.length_nil]; omega)
  have e2 : F144.p2 N same a.f0 a.f1 b.f0 b.f1 N (ovL a b (min b.f0.size a.f0.size - 1) 1) (0 : Int) = _ := F144_p2 ha hb hs a.f0.size 0 N _ (by omega) (by omega) (by omega)
  rw [F144.fn, e, Option.bind_some, List.nil_append, e2, Option.bind_some]
  rfl
/-! over all rules -/
def prI (r : T174) (i : Nat) : List T174 → Nat → List (List ByteArray)
  | [], _ => []
  | q :: t, j => crL r q (decide (i = j)) ++ prI r i t (j + 1)
def prL (l : List T174) : List T174 → Nat → List (List ByteArray)
  | [], _ => []
  | r :: t, i => prI r i l 0 ++ prL l t (i + 1)
theorem prI_len {r : T174} {i : Nat} (hr : GoodR r) : ∀ t j, (prI r i t j).length ≤ 12 * t.length
  | [], j => Nat.zero_le _
  | q :: t, j => by
    have := prI_len (i := i) hr t (j + 1)
    have := crL_len (b := q) (same := decide (i = j)) hr
    simp only [prI, List.length_append, List.length_cons]
    omega
theorem prL_len {l : List T174} (hl : GoodL l) : ∀ (t : List T174) (i : Nat), (∀ r ∈ t, GoodR r) → (prL l t i).length ≤ 96 * t.length
  | [], i, _ => Nat.zero_le _
  | r :: t, i, h => by
    have := prL_len hl t (i + 1) (fun x hx => h x (List.mem_cons_of_mem _ hx))
    have := prI_len (i := i) (h r List.mem_cons_self) l 0
    have := hl.n
    simp only [prL, List.length_append, List.length_cons]
    omega
theorem F81_p1 (hN : 140737488355328 ≤ N) {l : List T174} (hl : GoodL l) {r : T174} (hr : GoodR r) {i : Nat} {v14 : List T174} {v15 v16 : Int} : ∀ (t : List T174) (k n : Nat) (out : List (List ByteArray)), l.drop k = t → k ≤ l.length → t.length < n → out.length + 12 * t.length ≤ 100000 → F81.p1 N l (i : Int) r.f0 r.f1 v14 v15 v16 l (l.length : Int) n out (k : Int) = some (out ++ prI r i t k)
  | [], k, n + 1, out, h, hk, _, _ => by
    obtain rfl := drop_nil_F h hk
    rw [F81.p1, lt_F (Nat.le_refl _), cond_false, prI, List.append_nil]
  | q :: t, k, n + 1, out, h, hk, hn, ho => by
    obtain ⟨h1, h2, h3⟩ := drop_cons_F (d := default) h
    have hq := hl.r q (List.mem_of_mem_drop (h ▸ List.mem_cons_self))
    have := hl.n
    have hc := crL_len (b := q) (same := decide (i = k)) hr
    simp only [List.length_cons] at ho hn
    have e : decide ((i : Int) = (k : Int)) = decide (i = k) := by rw [decide_eq_decide]; omega
    rw [F81.p1, lt_T h1, cond_true, idx_nat h1, Option.bind_some, h2, e, show (⟨r.f0, r.f1⟩ : T174) = r from rfl, F143_fn hN hr hq, Option.bind_some, chk_T (by omega), Option.bind_some, w64_nat (by omega)]
    rw [F81_p1 hN hl hr t (k + 1) n _ h3 (by omega) (by omega) (by rw [List.length_append]; omega), List.append_assoc]
    rfl
theorem F82_p1 (hN : 140737488355328 ≤ N) {l : List T174} (hl : GoodL l) {r : T174} (hr : GoodR r) {i : Nat} (hi : l[i]? = some r) {v14 : List T174} {v15 v16 : Int} : ∀ (t : List T174) (k n : Nat) (out : List (List ByteArray)), l.drop k = t → k ≤ l.length → t.length < n → out.length + 12 * t.length ≤ 100000 → F82.p1 N l (i : Int) r.f0 r.f1 v14 v15 v16 l (l.length : Int) n out (k : Int) = some (out ++ prI r i t k)
  | [], k, n + 1, out, h, hk, _, _ => by
    obtain rfl := drop_nil_F h hk
    rw [F82.p1, lt_F (Nat.le_refl _), cond_false, prI, List.append_nil]
  | q :: t, k, n + 1, out, h, hk, hn, ho => by
    obtain ⟨h1, h2, h3⟩ := drop_cons_F (d := default) h
    have hq := hl.r q (List.mem_of_mem_drop (h ▸ List.mem_cons_self))
    have := hl.n
    have hc := crL_len (b := q) (same := decide (i = k)) hr
    have hsame : decide (i = k) = true → r = q := fun g => by
      have g := of_decide_eq_true g
      subst g
      rw [List.getD, hi] at h2
      exact h2
    simp only [List.length_cons] at ho hn
    have e : decide ((i : Int) = (k : Int)) = decide (i = k) := by rw [decide_eq_decide]; omega
    rw [F82.p1, lt_T h1, cond_true, idx_nat h1, Option.bind_some, h2, e, show (⟨r.f0, r.f1⟩ : T174) = r from rfl, F144_fn hN hr hq hsame, Option.bind_some, chk_T (by omega), Option.bind_some, w64_nat (by omega)]
    rw [F82_p1 hN hl hr hi t (k + 1) n _ h3 (by omega) (by omega) (by rw [List.length_append]; omega), List.append_assoc]
    rfl
theorem F81_p0 (hN : 140737488355328 ≤ N) {l : List T174} (hl : GoodL l) : ∀ (t : List T174) (k n : Nat) (out : List (List ByteArray)), l.drop k = t → k ≤ l.length → t.length < n → out.length + 96 * t.length ≤ 10000 → F81.p0 N l l (l.length : Int) n out (k : Int) = some (out ++ prL l t k)
  | [], k, n + 1, out, h, hk, _, _ => by
    obtain rfl := drop_nil_F h hk
    rw [F81.p0, lt_F (Nat.le_refl _), cond_false, prL, List.append_nil]
  | r :: t, k, n + 1, out, h, hk, hn, ho => by
    obtain ⟨h1, h2, h3⟩ := drop_cons_F (d := default) h
    have hr := hl.r r (List.mem_of_mem_drop (h ▸ List.mem_cons_self))
    have := hl.n
    have hc := prI_len (i := k) hr l 0
    simp only [List.length_cons] at ho hn
    have e : F81.p1 N l (k : Int) r.f0 r.f1 l (l.length : Int) (k : Int) l (l.length : Int) N out (0 : Int) = _ := F81_p1 hN hl hr (i := k) l 0 N out rfl (Nat.zero_le _) (by omega) (by omega)
    rw [F81.p0, lt_T h1, cond_true, idx_nat h1, Option.bind_some, h2, e, Option.bind_some, w64_nat (by omega)]
    rw [F81_p0 hN hl t (k + 1) n _ h3 (by omega) (by omega) (by rw [List.length_append]; omega), List.append_assoc]
    rfl
theorem F82_p0 (hN : 140737488355328 ≤ N) {l : List T174} (hl : GoodL l) : ∀ (t : List T174) (k n : Nat) (out : List (List ByteArray)), l.drop k = t → k ≤ l.length → t.length < n → out.length + 96 * t.length ≤ 10000 → F82.p0 N l l (l.length : Int) n out (k : Int) = some (out ++ prL l t k)
  | [], k, n + 1, out, h, hk, _, _ => by
    obtain rfl := drop_nil_F h hk
    rw [F82.p0, lt_F (Nat.le_refl _), cond_false, prL, List.append_nil]
  | r :: t, k, n + 1, out, h, hk, hn, ho => by
    obtain ⟨h1, h2, h3⟩ := drop_cons_F (d := default) h
    have hr := hl.r r (List.mem_of_mem_drop (h ▸ List.mem_cons_self))
    have hi : l[k]? = some r := by rw [List.getD, List.getElem?_eq_getElem h1] at h2; rw [List.getElem?_eq_getElem h1]; exact congrArg some h2
    have := hl.n
    have hc := prI_len (i := k) hr l 0
    simp only [List.length_cons] at ho hn
    have e : F82.p1 N l (k : Int) r.f0 r.f1 l (l.length : Int) (k : Int) l (l.length : Int) N out (0 : Int) = _ := F82_p1 hN hl hr hi l 0 N out rfl (Nat.zero_le _) (by omega) (by omega)
    rw [F82.p0, lt_T h1, cond_true, idx_nat h1, Option.bind_some, h2, e, Option.bind_some, w64_nat (by omega)]
    rw [F82_p0 hN hl t (k + 1) n _ h3 (by omega) (by omega) (by rw [List.length_append]; omega), List.append_assoc]
    rfl
theorem F81_fn (hN : 140737488355328 ≤ N) {l : List T174} (hl : GoodL l) : F81.fn N l = some (prL l l 0) := by
  have := hl.n
  have e : F81.p0 N l l (l.length : Int) N [] (0 : Int) = _ := F81_p0 hN hl l 0 N [] rfl (Nat.zero_le _) (by omega) (by simp only [List.length_nil]; omega)
  rw [F81.fn, e, Option.bind_some, List.nil_append]
theorem F82_fn (hN : 140737488355328 ≤ N) {l : List T174} (hl : GoodL l) : F82.fn N l = some (prL l l 0) := by
  have := hl.n
  have e : F82.p0 N l l (l.length : Int) N [] (0 : Int) = _ := F82_p0 hN hl l 0 N [] rfl (Nat.zero_le _) (by omega) (by simp only [List.length_nil]; omega)
  rw [F82.fn, e, Option.bind_some, List.nil_append]
end Go.Eng
set_option linter.unusedVariables false
set_option linter.unusedSimpArgs false
namespace Go.Eng
variable {N : Nat}
def prOK (p : List ByteArray) : Prop := ∃ x y, p = [x, y] ∧ x.size ≤ 100000 ∧ y.size ≤ 100000
theorem ovL_ok {a b : T174} (ha : GoodR a) (hb : GoodR b) : ∀ m n p, p ∈ ovL a b m n → prOK p
  | 0, n, p, h => by cases h
  | m + 1, n, p, h => by
    have := ha.q; have := ha.w; have := hb.q; have := hb.w
    unfold ovL at h
    cases g : ovA a b n with
    | false => rw [g, cond_false] at h; exact ovL_ok ha hb m _ p h
    | true =>
      rw [g, cond_true] at h
      rcases List.mem_cons.1 h with rfl | h
      · exact ⟨_, _, rfl, by rw [ByteArray.size_append, ByteArray.size_extract]; omega, by rw [ByteArray.size_append, ByteArray.size_extract]; omega⟩
      · exact ovL_ok ha hb m _ p h
theorem crL_ok {a b : T174} (ha : GoodR a) (hb : GoodR b) {same : Bool} {p : List ByteArray} (h : p ∈ crL a b same) : prOK p := by
  unfold crL at h
  rcases List.mem_append.1 h with h | h
  · exact ovL_ok ha hb _ _ p h
  · cases same with
    | true => cases h
    | false =>
      rw [cond_false] at h
      obtain ⟨x, hx, rfl⟩ := List.mem_map.1 h
      obtain ⟨j, _, _, hh, rfl⟩ := onR_mem _ _ hx
      have := putR_size hb hh
      have := ha.q; have := ha.w
      exact ⟨_, _, rfl, by omega, by omega⟩
theorem prI_ok {r : T174} {i : Nat} (hr : GoodR r) : ∀ (t : List T174) j p, (∀ x ∈ t, GoodR x) → p ∈ prI r i t j → prOK p
  | [], j, p, _, h => by cases h
  | q :: t, j, p, ht, h => by
    simp only [prI] at h
    rcases List.mem_append.1 h with h | h
    · exact crL_ok hr (ht q List.mem_cons_self) h
    · exact prI_ok hr t _ p (fun x hx => ht x (List.mem_cons_of_mem _ hx)) h
theorem prL_ok {l : List T174} (hl : GoodL l) : ∀ (t : List T174) i p, (∀ x ∈ t, GoodR x) → p ∈ prL l t i → prOK p
  | [], i, p, _, h => by cases h
  | r :: t, i, p, ht, h => by
    simp only [prL] at h
    rcases List.mem_append.1 h with h | h
    · exact prI_ok (ht r List.mem_cons_self) l _ p hl.r h
    · exact prL_ok hl t _ p (fun x hx => ht x (List.mem_cons_of_mem _ hx)) h
def nf0 (l : List T174) (s : ByteArray) : ByteArray × Int × Bool := runN l false 400 s 0
def cfL (l : List T174) : List (List ByteArray) → Bool → Option Bool
  | [], c => some c
  | p :: t, c => cond ((nf0 l (p.getD 0 ByteArray.empty)).2.2 && (nf0 l (p.getD 1 ByteArray.empty)).2.2) (cfL l t (c && sEq (nf0 l (p.getD 0 ByteArray.empty)).1 (nf0 l (p.getD 1 ByteArray.empty)).1)) none
theorem F19_p (hN : 140737488355328 ≤ N) {l : List T174} (hl : GoodL l) {v : List (List ByteArray)} (hv : v.length ≤ 100000) (ho : ∀ p ∈ v, prOK p) : ∀ (t : List (List ByteArray)) (k n : Nat) (c : Bool), v.drop k = t → k ≤ v.length → t.length < n → F19.p0 N l v (v.length : Int) n c (k : Int) = some (Option.elim (cfL l t c) (.inl ()) .inr)
  | [], k, n + 1, c, h, hk, _ => by
    obtain rfl := drop_nil_F h hk
    rw [F19.p0, lt_F (Nat.le_refl _), cond_false]
    rfl
  | p :: t, k, n + 1, c, h, hk, hn => by
    obtain ⟨h1, h2, h3⟩ := drop_cons_F (d := []) h
    obtain ⟨x, y, rfl, hx, hy⟩ := ho p (List.mem_of_mem_drop (h ▸ List.mem_cons_self))
    have i0 : idx 0 [x, y].length = some 0 := idx_nat (k := 0) (by simp)
    have i1 : idx 1 [x, y].length = some 1 := idx_nat (k := 1) (by simp)
    have e0 : F76.fn N l ([x, y].getD 0 ByteArray.empty) false = some (nf0 l x) := F76_fn hN hl hx
    have e1 : F76.fn N l ([x, y].getD 1 ByteArray.empty) false = some (nf0 l y) := F76_fn hN hl hy
    rw [F19.p0, lt_T h1, cond_true, idx_nat h1, Option.bind_some, h2, i0, Option.bind_some, e0, Option.bind_some, i1, Option.bind_some, e1, Option.bind_some, w64_nat (by omega)]
    have ih := fun c => F19_p hN hl hv ho t (k + 1) n c h3 (by omega) (by simpa using hn)
    rw [F19.p1, ih, ih, cfL]
    show _ = some (Option.elim (cond ((nf0 l x).2.2 && (nf0 l y).2.2) (cfL l t (c && sEq (nf0 l x).1 (nf0 l y).1)) none) _ _)
    cases (nf0 l x).2.2 <;> cases (nf0 l y).2.2 <;> cases c <;> rfl
theorem F20_p (hN : 140737488355328 ≤ N) {l : List T174} (hl : GoodL l) {v : List (List ByteArray)} (hv : v.length ≤ 100000) (ho : ∀ p ∈ v, prOK p) : ∀ (t : List (List ByteArray)) (k n : Nat) (c : Bool), v.drop k = t → k ≤ v.length → t.length < n → F20.p0 N l v (v.length : Int) n c (k : Int) = some (Option.elim (cfL l t c) (.inl ()) .inr)
  | [], k, n + 1, c, h, hk, _ => by
    obtain rfl := drop_nil_F h hk
    rw [F20.p0, lt_F (Nat.le_refl _), cond_false]
    rfl
  | p :: t, k, n + 1, c, h, hk, hn => by
    obtain ⟨h1, h2, h3⟩ := drop_cons_F (d := []) h
    obtain ⟨x, y, rfl, hx, hy⟩ := ho p (List.mem_of_mem_drop (h ▸ List.mem_cons_self))
    have i0 : idx 0 [x, y].length = some 0 := idx_nat (k := 0) (by simp)
    have i1 : idx 1 [x, y].length = some 1 := idx_nat (k := 1) (by simp)
    have e0 : F79.fn N l ([x, y].getD 0 ByteArray.empty) false = some (nf0 l x) := F79_fn hN hl hx
    have e1 : F79.fn N l ([x, y].getD 1 ByteArray.empty) false = some (nf0 l y) := F79_fn hN hl hy
    rw [F20.p0, lt_T h1, cond_true, idx_nat h1, Option.bind_some, h2, i0, Option.bind_some, e0, Option.bind_some, i1, Option.bind_some, e1, Option.bind_some, w64_nat (by omega)]
    have ih := fun c => F20_p hN hl hv ho t (k + 1) n c h3 (by omega) (by simpa using hn)
    rw [F20.p1, ih, ih, cfL]
    show _ = some (Option.elim (cond ((nf0 l x).2.2 && (nf0 l y).2.2) (cfL l t (c && sEq (nf0 l x).1 (nf0 l y).1)) none) _ _)
    cases (nf0 l x).2.2 <;> cases (nf0 l y).2.2 <;> cases c <;> rfl
/-- Is it confluent? -/
def confL (l : List T174) : Bool × Bool := cond (gR l) (Option.elim (cfL l (prL l l 0) true) (false, false) fun c => (c, true)) (false, false)
/-- Sizes that a drawn list of rules has. -/
structure Drawn (l : List T174) : Prop where
  n : l.length ≤ 100
  r : ∀ x ∈ l, x.f0.size ≤ 1000 ∧ x.f1.size ≤ 1000
theorem Drawn.sz {l : List T174} (h : Drawn l) : ∀ x ∈ l, szR x := fun x hx => by
  have := h.r x hx
  exact ⟨by omega, by omega⟩
theorem conf_same (hN : 140737488355328 ≤ N) {l : List T174} (hd : Drawn l) : F19.fn N l = some (confL l) ∧ F20.fn N l = some (confL l) := by
  have hln := hd.n
  rw [F19.fn, F20.fn, F80_fn hN (by omega) hd.sz, Option.bind_some, F77_fn hN (by omega) hd.sz, Option.bind_some]
  unfold confL
  cases g : gR l with
  | false => exact ⟨rfl, rfl⟩
  | true =>
    have hl := goodL_of g
    have hn := hl.n
    have hp := prL_len hl l 0 hl.r
    rw [F81_fn hN hl, F82_fn hN hl, Option.bind_some, Option.bind_some, Bool.not_true, cond_false, cond_false, cond_true]
    have e1 : F19.p0 N l (prL l l 0) ((prL l l 0).length : Int) N true (0 : Int) = _ := F19_p hN hl (by omega) (fun p h => prL_ok hl l 0 p hl.r h) (prL l l 0) 0 N true rfl (Nat.zero_le _) (by omega)
    have e2 : F20.p0 N l (prL l l 0) ((prL l l 0).length : Int) N true (0 : Int) = _ := F20_p hN hl (by omega) (fun p h => prL_ok hl l 0 p hl.r h) (prL l l 0) 0 N true rfl (Nat.zero_le _) (by omega)
    rw [e1, e2]
    simp only [Option.bind_some]
    cases cfL l (prL l l 0) true <;> exact ⟨rfl, rfl⟩
/-! normal forms, asked for -/
def asked (l : List T174) (s : ByteArray) : Bool := gR l && lets 40 s
def normL (l : List T174) (s : ByteArray) : ByteArray × Int × Bool := cond (asked l s) (nf0 l s) (ByteArray.empty, 0, false)
def lastL (l : List T174) (s : ByteArray) : ByteArray × Bool := cond (asked l s) ((runN l true 400 s 0).1, (runN l true 400 s 0).2.2) (ByteArray.empty, false)
theorem F75_fn (hN : 140737488355328 ≤ N) {l : List T174} (hd : Drawn l) {s : ByteArray} (hs : s.size ≤ 100000) : F75.fn N l s = some (asked l s) := by
  have hln := hd.n
  rw [F75.fn, F80_fn hN (by omega) hd.sz, Option.bind_some, F138_fn hN (by omega), Option.bind_some]
  unfold asked
  cases gR l <;> rfl
theorem asked_of {l : List T174} {s : ByteArray} (h : asked l s = true) : GoodL l ∧ (d s).all let1 = true ∧ s.size ≤ 40 := by
  unfold asked lets at h
  simp only [Bool.and_eq_true, decide_eq_true_eq] at h
  exact ⟨goodL_of h.1, h.2.1, by omega⟩
theorem norm_same (hN : 140737488355328 ≤ N) {l : List T174} (hd : Drawn l) {s : ByteArray} (hs : s.size ≤ 100000) : F15.fn N l s = some (normL l s) ∧ F16.fn N l s = some (normL l s) ∧ F17.fn N l s = some (lastL l s) ∧ F18.fn N l s = some (lastL l s) := by
  have hln := hd.n
  have ea : F16.p0 N l s = some (!asked l s) := by
    rw [F16.p0, F77_fn hN (by omega) hd.sz, Option.bind_some, F78_fn hN (by omega), Option.bind_some]
    unfold asked
    cases gR l <;> rfl
  have eb : F18.p0 N l s = some (!asked l s) := by
    rw [F18.p0, F77_fn hN (by omega) hd.sz, Option.bind_some, F78_fn hN (by omega), Option.bind_some]
    unfold asked
    cases gR l <;> rfl
  rw [F15.fn, F16.fn, F17.fn, F18.fn, F75_fn hN hd hs, ea, eb]
  simp only [Option.bind_some]
  unfold normL lastL
  cases g : asked l s with
  | false => exact ⟨rfl, rfl, rfl, rfl⟩
  | true =>
    have hl := (asked_of g).1
    rw [F76_fn hN hl hs, F76_fn hN hl hs, F79_fn hN hl hs, F79_fn hN hl hs]
    exact ⟨rfl, rfl, rfl, rfl⟩
def onceL (l : List T174) (s : ByteArray) : List ByteArray × Bool := cond (asked l s) (onL l s, true) ([], false)
theorem once_same (hN : 140737488355328 ≤ N) {l : List T174} (hd : Drawn l) {s : ByteArray} (hs : s.size ≤ 100000) : F21.fn N l s = some (onceL l s) ∧ F86.fn N l s = some (onceL l s) := by
  have hln := hd.n
  have ea : F86.p0 N l s = some (!asked l s) := by
    rw [F86.p0, F77_fn hN (by omega) hd.sz, Option.bind_some, F78_fn hN (by omega), Option.bind_some]
    unfold asked
    cases gR l <;> rfl
  rw [F21.fn, F86.fn, F75_fn hN hd hs, ea]
  simp only [Option.bind_some]
  unfold onceL
  cases g : asked l s with
  | false => exact ⟨rfl, rfl⟩
  | true =>
    have hl := (asked_of g).1
    rw [F83_fn hN hl hs, F140_fn hN hl hs]
    exact ⟨rfl, rfl⟩
def joinL (l : List T174) (a b : ByteArray) : Bool × Bool := cond ((normL l a).2.2 && (normL l b).2.2) (sEq (normL l a).1 (normL l b).1, true) (false, false)
theorem join_same (hN : 140737488355328 ≤ N) {l : List T174} (hd : Drawn l) {a b : ByteArray} (ha : a.size ≤ 100000) (hb : b.size ≤ 100000) : F25.fn N l a b = some (joinL l a b) ∧ F26.fn N l a b = some (joinL l a b) := by
  obtain ⟨a1, a2, _, _⟩ := norm_same hN hd ha
  obtain ⟨b1, b2, _, _⟩ := norm_same hN hd hb
  rw [F25.fn, F26.fn, a1, a2, b1, b2]
  simp only [Option.bind_some]
  unfold joinL
  cases (normL l a).2.2 <;> cases (normL l b).2.2 <;> exact ⟨rfl, rfl⟩
end Go.Eng
set_option linter.unusedVariables false
set_option linter.unusedSimpArgs false
namespace Go.Eng
def rsOf (l : List T174) : Rs := l.map fun r => (d r.f0, d r.f1)
theorem d_app {a b : ByteArray} : d (a ++ b) = d a ++ d b := by
  unfold d
  rw [ByteArray.data_append, Array.toList_append]
theorem d_ext {s : ByteArray} {i j : Nat} : d (s.extract i j) = ((d s).drop i).take (j - i) := by
  unfold d
  rw [ByteArray.data_extract, Array.toList_extract, List.extract_eq_take_drop]
theorem d_put {r : T174} {s : ByteArray} {k : Nat} (h : hit r s k = true) : d s = (d s).take k ++ (d r.f0 ++ (d s).drop (k + r.f0.size)) ∧ d (put r s k) = (d s).take k ++ (d r.f1 ++ (d s).drop (k + r.f0.size)) := by
  unfold hit at h
  simp only [Bool.and_eq_true, decide_eq_true_eq] at h
  obtain ⟨h1, h2⟩ := h
  have h2 := congrArg d (sEq_iff.1 h2)
  rw [d_ext] at h2
  have e : k + r.f0.size - k = r.f0.size := by omega
  rw [e] at h2
  constructor
  · rw [← h2, ← List.drop_drop, List.take_append_drop, List.take_append_drop]
  · unfold put
    rw [d_app, d_app, d_ext, d_ext, List.drop_zero, Nat.sub_zero, List.append_assoc]
    have hl : ((d s).drop (k + r.f0.size)).length ≤ s.size - (k + r.f0.size) := by rw [List.length_drop, d_len]; omega
    rw [List.take_of_length_le hl]
theorem hit_of {r : T174} {s : ByteArray} {u v : Str} (h : d s = u ++ (d r.f0 ++ v)) : hit r s u.length = true := by
  have hl := congrArg List.length h
  simp only [List.length_append, d_len] at hl
  unfold hit
  rw [decide_eq_true (by omega), Bool.true_and, sEq_iff]
  apply d_inj
  rw [d_ext, h, List.drop_left, show u.length + r.f0.size - u.length = (d r.f0).length from by rw [d_len]; omega, List.take_left]
theorem put_of {r : T174} {s : ByteArray} {u v : Str} (h : d s = u ++ (d r.f0 ++ v)) : d (put r s u.length) = u ++ (d r.f1 ++ v) := by
  rw [(d_put (hit_of h)).2, h, List.take_left, show u.length + r.f0.size = u.length + (d r.f0).length from by rw [d_len], ← List.drop_drop, List.drop_left, List.drop_left]
theorem step_of {l : List T174} {s x : ByteArray} (h : x ∈ onL l s) : RStep (rsOf l) (d s) (d x) := by
  obtain ⟨r, hr, hx⟩ := List.mem_flatMap.1 h
  obtain ⟨j, _, _, hh, rfl⟩ := onR_mem _ _ hx
  obtain ⟨h1, h2⟩ := d_put hh
  exact ⟨(d r.f0, d r.f1), List.mem_map.2 ⟨r, hr, rfl⟩, _, _, h1, h2⟩
theorem of_step {l : List T174} (hl : GoodL l) {s : ByteArray} {t : Str} (h : RStep (rsOf l) (d s) t) : ∃ x ∈ onL l s, d x = t := by
  obtain ⟨p, hp, u, v, h1, rfl⟩ := h
  obtain ⟨r, hr, rfl⟩ := List.mem_map.1 hp
  have hl2 := congrArg List.length h1
  simp only [List.length_append, d_len] at hl2
  have := (hl.r r hr).p
  exact ⟨put r s u.length, List.mem_flatMap.2 ⟨r, hr, mem_onR (hit_of h1) _ _ (Nat.zero_le _) (by omega)⟩, put_of h1⟩
theorem normal_of {l : List T174} (hl : GoodL l) {s : ByteArray} (h : onL l s = []) : Normal (rsOf l) (d s) := fun t ht => by
  obtain ⟨x, hx, _⟩ := of_step hl ht
  rw [h] at hx
  cases hx
theorem step_less {l : List T174} (hl : GoodL l) (s t : Str) (h : RStep (rsOf l) s t) : Less t s := by
  obtain ⟨p, hp, u, v, rfl, rfl⟩ := h
  obtain ⟨r, hr, rfl⟩ := List.mem_map.1 hp
  exact (hl.r r hr).less.ctx u v
theorem step_let {l : List T174} (hl : GoodL l) {s t : Str} (h : RStep (rsOf l) s t) (hs : s.all let1 = true) : t.all let1 = true := by
  obtain ⟨p, hp, u, v, rfl, rfl⟩ := h
  obtain ⟨r, hr, rfl⟩ := List.mem_map.1 hp
  simp only [List.all_append, Bool.and_eq_true] at hs ⊢
  exact ⟨hs.1, (hl.r r hr).l, hs.2.2⟩
/-- What a run to the end tells. -/
theorem runN_ok {l : List T174} (hl : GoodL l) {last : Bool} : ∀ (m : Nat) (s : ByteArray) (n : Int), (runN l last m s n).2.2 = true → Star (rsOf l) (d s) (d (runN l last m s n).1) ∧ onL l (runN l last m s n).1 = [] ∧ (((runN l last m s n).2.1 = n ∧ (runN l last m s n).1 = s) ∨ (n < (runN l last m s n).2.1 ∧ Less (d (runN l last m s n).1) (d s)))
  | 0, s, n, h => by
    by_cases g : onL l s = []
    · simp only [runN, decide_eq_true g, cond_true] at h ⊢
      exact ⟨.refl _, g, .inl (by simp)⟩
    · simp only [runN, decide_eq_false g, cond_false] at h
      cases h
  | m + 1, s, n, h => by
    by_cases g : onL l s = []
    · simp only [runN, decide_eq_true g, cond_true] at h ⊢
      exact ⟨.refl _, g, .inl (by simp)⟩
    · simp only [runN, decide_eq_false g, cond_false] at h ⊢
      obtain ⟨h1, h2, h3⟩ := runN_ok hl m _ (n + 1) h
      have st := step_of (pickL_mem (last := last) g)
      have le := step_less hl _ _ st
      refine ⟨.head st h1, h2, .inr ?_⟩
      rcases h3 with ⟨e1, e2⟩ | ⟨e1, e2⟩
      · rw [e2]
        exact ⟨by omega, le⟩
      · exact ⟨by omega, e2.trans le⟩
theorem star_let {l : List T174} (hl : GoodL l) {s t : Str} (h : Star (rsOf l) s t) : s.all let1 = true → t.all let1 = true := by
  induction h with
  | refl => exact id
  | head h _ ih => exact fun hs => ih (step_let hl h hs)
theorem star_len {l : List T174} (hl : GoodL l) {s t : Str} (h : Star (rsOf l) s t) : t.length ≤ s.length := by
  induction h with
  | refl => exact Nat.le_refl _
  | head h _ ih =>
    have := step_less hl _ _ h
    unfold Less at this
    omega
/-! the critical pairs -/
theorem cfL_mem {l : List T174} : ∀ (t : List (List ByteArray)) (c : Bool), cfL l t c = some true → c = true ∧ ∀ p ∈ t, (nf0 l (p.getD 0 ByteArray.empty)).2.2 = true ∧ (nf0 l (p.getD 1 ByteArray.empty)).2.2 = true ∧ (nf0 l (p.getD 0 ByteArray.empty)).1 = (nf0 l (p.getD 1 ByteArray.empty)).1
  | [], c, h => by
    simp only [cfL, Option.some.injEq] at h
    exact ⟨h, fun p hp => by cases hp⟩
  | p :: t, c, h => by
    unfold cfL at h
    cases g : (nf0 l (p.getD 0 ByteArray.empty)).2.2 && (nf0 l (p.getD 1 ByteArray.empty)).2.2 with
    | false => rw [g, cond_false] at h; cases h
    | true =>
      rw [g, cond_true] at h
      simp only [Bool.and_eq_true] at g
      obtain ⟨h1, h2⟩ := cfL_mem t _ h
      simp only [Bool.and_eq_true] at h1
      refine ⟨h1.1, fun q hq => ?_⟩
      rcases List.mem_cons.1 hq with rfl | hq
      · exact ⟨g.1, g.2, sEq_iff.1 h1.2⟩
      · exact h2 q hq
theorem mem_prI {r q : T174} {i : Nat} {p : List ByteArray} : ∀ (t : List T174) (j m : Nat), t[m]? = some q → p ∈ crL r q (decide (i = j + m)) → p ∈ prI r i t j
  | [], j, m, h, _ => by cases h
  | x :: t, j, 0, h, hp => by
    cases h
    simp only [prI]
    exact List.mem_append.2 (.inl hp)
  | x :: t, j, m + 1, h, hp => by
    simp only [prI]
    exact List.mem_append.2 (.inr (mem_prI t (j + 1) m (by simpa using h) (by rwa [show j + 1 + m = j + (m + 1) from by omega])))
theorem mem_prL {l : List T174} {r : T174} {p : List ByteArray} : ∀ (t : List T174) (j m : Nat), t[m]? = some r → p ∈ prI r (j + m) l 0 → p ∈ prL l t j
  | [], j, m, h, _ => by cases h
  | x :: t, j, 0, h, hp => by
    cases h
    simp only [prL]
    exact List.mem_append.2 (.inl hp)
  | x :: t, j, m + 1, h, hp => by
    simp only [prL]
    exact List.mem_append.2 (.inr (mem_prL t (j + 1) m (by simpa using h) (by rwa [show j + 1 + m = j + (m + 1) from by omega])))
theorem mem_ovL {a b : T174} {n : Nat} (h : ovA a b n = true) : ∀ m k, k ≤ n → n < k + m → ovP a b n ∈ ovL a b m k
  | 0, k, h1, h2 => by omega
  | m + 1, k, h1, h2 => by
    unfold ovL
    rcases Nat.lt_or_ge k n with g | g
    · have := mem_ovL h m (k + 1) (by omega) (by omega)
      cases ovA a b k
      · exact this
      · exact List.mem_cons_of_mem _ this
    · obtain rfl : k = n := by omega
      rw [h, cond_true]
      exact List.mem_cons_self
theorem joins_of {l : List T174} (hl : GoodL l) (hc : cfL l (prL l l 0) true = some true) {x y : ByteArray} (h : [x, y] ∈ prL l l 0) : Joins (rsOf l) (d x) (d y) := by
  obtain ⟨h1, h2, h3⟩ := (cfL_mem _ _ hc).2 _ h
  have a := (runN_ok hl 400 x 0 h1).1
  have b := (runN_ok hl 400 y 0 h2).1
  refine ⟨_, a, ?_⟩
  have h3 : (runN l false 400 x 0).1 = (runN l false 400 y 0).1 := h3
  rw [h3]
  exact b
theorem crit_of {l : List T174} (hl : GoodL l) (hc : cfL l (prL l l 0) true = some true) : Crit (rsOf l) := by
  have pick : ∀ (i : Nat) (r : Str × Str), (rsOf l)[i]? = some r → ∃ x, l[i]? = some x ∧ r = (d x.f0, d x.f1) := fun i r h => by
    unfold rsOf at h
    rw [List.getElem?_map] at h
    cases g : l[i]? with
    | none => rw [g] at h; cases h
    | some x => rw [g] at h; cases h; exact ⟨x, rfl, rfl⟩
  constructor
  · intro i j r q hi hj a c dd h1 h2 ha hcn hd
    obtain ⟨x, hx, rfl⟩ := pick i r hi
    obtain ⟨y, hy, rfl⟩ := pick j q hj
    simp only at h1 h2 ⊢
    have l1 := congrArg List.length h1
    have l2 := congrArg List.length h2
    simp only [List.length_append, d_len] at l1 l2
    have pa := List.length_pos_iff.2 ha
    have pc := List.length_pos_iff.2 hcn
    have pd := List.length_pos_iff.2 hd
    have e1 : x.f0.size - c.length = a.length := by omega
    have ho : ovA x y c.length = true := by
      unfold ovA
      rw [sEq_iff]
      apply d_inj
      rw [d_ext, d_ext, e1, h1, h2, List.drop_left, List.drop_zero, Nat.sub_zero, List.take_left, List.take_of_length_le (by omega)]
    have hm : ovP x y c.length ∈ prL l l 0 := mem_prL l 0 i hx (mem_prI l 0 j hy (by
      unfold crL
      exact List.mem_append.2 (.inl (mem_ovL ho _ _ pc (by omega)))))
    have := joins_of hl hc hm
    rw [d_app, d_app, d_ext, d_ext, e1, h1, h2, List.drop_left, List.drop_zero, Nat.sub_zero, List.take_left, List.take_of_length_le (by omega)] at this
    exact this
  · intro i j r q hi hj hij a dd h1
    obtain ⟨x, hx, rfl⟩ := pick i r hi
    obtain ⟨y, hy, rfl⟩ := pick j q hj
    simp only at h1 ⊢
    have l1 := congrArg List.length h1
    simp only [List.length_append, d_len] at l1
    have py := (hl.r y (List.mem_of_getElem? hy)).p
    have hm : inP x (put y x.f0 a.length) ∈ prL l l 0 := mem_prL l 0 i hx (mem_prI l 0 j hy (by
      unfold crL
      rw [decide_eq_false (by omega), cond_false]
      exact List.mem_append.2 (.inr (List.mem_map.2 ⟨_, mem_onR (hit_of h1) _ _ (Nat.zero_le _) (by omega), rfl⟩))))
    have := joins_of hl hc hm
    rw [put_of h1] at this
    exact this
end Go.Eng
set_option linter.unusedVariables false
set_option linter.unusedSimpArgs false
namespace Go.Eng
variable {N : Nat}
/-! draws -/
structure DC (c : T108) (m : Nat) : Prop where
  n : c.f0.length ≤ 4000000
  b : ∀ x ∈ c.f0, 0 ≤ x ∧ x ≤ 255
  p : 0 ≤ c.f1
  q : c.f1 ≤ m
theorem DC.up {c : T108} {m k : Nat} (h : DC c m) (hk : m ≤ k) : DC c k := ⟨h.n, h.b, h.p, by have := h.q; omega⟩
theorem and255 {a : Int} : 0 ≤ bitAnd .u64 a 255 ∧ bitAnd .u64 a 255 ≤ 255 := by
  have h1 : (BitVec.ofInt 64 a &&& BitVec.ofInt 64 255).toNat ≤ 255 := by
    rw [BitVec.toNat_and]
    exact Nat.le_trans Nat.and_le_right (by decide)
  have h2 : bitAnd .u64 a 255 = IntKind.u64.wrap ((BitVec.ofInt 64 a &&& BitVec.ofInt 64 255).toNat : Int) := rfl
  have h3 : ∀ x : Int, IntKind.u64.wrap x = x % 18446744073709551616 := fun x => by simp [IntKind.wrap, IntKind.bits, IntKind.signed]
  rw [h2, h3]
  omega
theorem next_ok {c : T108} {m : Nat} (h : DC c m) (hm : m ≤ 1000000000) : ∃ r c', F149.fn N c = some (r, c') ∧ 0 ≤ r ∧ r ≤ 255 ∧ DC c' (m + 1) := by
  have h1 := h.p
  have h2 := h.q
  have h3 := h.n
  have e : ∃ r, F149.p0 N c.f0 c.f1 c.f2 (decide (c.f1 < (c.f0.length : Int))) = some r ∧ 0 ≤ r ∧ r ≤ 255 := by
    by_cases g : c.f1 < (c.f0.length : Int)
    · obtain ⟨j, ej, hj, _⟩ := idx_of h1 g
      have hb := h.b (c.f0.getD j 0) (by rw [List.getD, List.getElem?_eq_getElem hj]; exact List.getElem_mem hj)
      exact ⟨c.f0.getD j 0, by rw [F149.p0, decide_eq_true g, cond_true, ej, Option.bind_some, w64_id (by omega) (by omega)], hb⟩
    · exact ⟨0, by rw [F149.p0, decide_eq_false g, cond_false], by omega, by omega⟩
  obtain ⟨r, e, hr⟩ := e
  have hc : ∀ x : Int, DC ⟨c.f0, w64 (c.f1 + 1), x⟩ (m + 1) := fun x => ⟨h3, h.b, by simp only; rw [w64_id (by omega) (by omega)]; omega, by simp only; rw [w64_id (by omega) (by omega)]; omega⟩
  rw [F149.fn, e, Option.bind_some]
  cases decide (w64 (c.f1 + 1) ≤ (c.f0.length : Int))
  · have h255 := @and255
    exact ⟨_, _, rfl, by rw [w64_id (by have := @h255; exact Int.le_trans (by decide) this.1) (Int.lt_of_le_of_lt h255.2 (by decide))]; exact h255.1, by rw [w64_id (Int.le_trans (by decide) h255.1) (Int.lt_of_le_of_lt h255.2 (by decide))]; exact h255.2, hc _⟩
  · exact ⟨_, _, rfl, hr.1, hr.2, hc _⟩
theorem pick_ok {c : T108} {m : Nat} (h : DC c m) (hm : m ≤ 100000000) {n : Int} (hn : n ≤ 1000000) : ∃ r c', F88.fn N c n = some (r, c') ∧ 0 ≤ r ∧ (1 ≤ n → r < n) ∧ DC c' (m + 2) := by
  rw [F88.fn]
  by_cases g : n ≤ 1
  · exact ⟨0, c, by rw [decide_eq_true g, cond_true], Int.le_refl _, fun _ => by omega, h.up (by omega)⟩
  · obtain ⟨r, c', e, r0, r1, hc⟩ := next_ok (N := N) h (by omega)
    rw [decide_eq_false g, cond_false, e, Option.bind_some]
    by_cases g2 : n > 200
    · obtain ⟨q, c2, e2, q0, q1, hc2⟩ := next_ok (N := N) hc (by omega)
      rw [decide_eq_true g2, cond_true, e2, Option.bind_some, chk_T (by omega), Option.bind_some]
      simp only
      rw [w64_id (i := r * 256) (by omega) (by omega), w64_id (by omega) (by omega)]
      exact ⟨_, _, rfl, Int.tmod_nonneg _ (by omega), fun _ => Int.tmod_lt_of_pos _ (by omega), hc2⟩
    · rw [decide_eq_false g2, cond_false, chk_T (by omega), Option.bind_some]
      exact ⟨_, _, rfl, Int.tmod_nonneg _ r0, fun _ => Int.tmod_lt_of_pos _ (by omega), hc.up (by omega)⟩
theorem one_ok {c : T108} {m : Nat} (h : DC c m) (hm : m ≤ 100000000) {n : Int} (hn : n ≤ 1000000) : ∃ r c', F87.fn N c n = some (r, c') ∧ DC c' (m + 2) := by
  obtain ⟨r, c', e, _, _, hc⟩ := pick_ok (N := N) h hm hn
  exact ⟨_, _, by rw [F87.fn, e, Option.bind_some], hc⟩
theorem of_ok {c : T108} {m : Nat} (h : DC c m) (hm : m ≤ 100000000) {l : List ByteArray} (hl : 0 < l.length) (hl2 : l.length ≤ 1000000) : ∃ s c', F148.fn N c l = some (s, c') ∧ s ∈ l ∧ DC c' (m + 2) := by
  obtain ⟨r, c', e, r0, r1, hc⟩ := pick_ok (N := N) h hm (n := (l.length : Int)) (by omega)
  obtain ⟨j, ej, hj, _⟩ := idx_of r0 (r1 (by omega))
  exact ⟨l.getD j ByteArray.empty, c', by rw [F148.fn, e, Option.bind_some, ej, Option.bind_some], getD_mem hj, hc⟩
theorem ab_loop : ∀ (k n m : Nat) (v3 : List Int) (v4 v5 : Int) (s : ByteArray), k < n → k ≤ 1000 → m + 2 * k ≤ 10000000 → DC ⟨v3, v4, v5⟩ m → s.size + k ≤ 10000 → ∃ s' w3 w4 w5, F147.p0 N n v3 v4 v5 s (k : Int) = some (w3, w4, w5, s') ∧ s'.size ≤ s.size + k ∧ DC ⟨w3, w4, w5⟩ (m + 2 * k)
  | 0, n + 1, m, v3, v4, v5, s, _, _, _, h, _ => ⟨s, v3, v4, v5, by rw [F147.p0]; rfl, Nat.le_refl _, h⟩
  | k + 1, n + 1, m, v3, v4, v5, s, hn, hk, hm, h, hs => by
    obtain ⟨x, c', e, hx, hc⟩ := of_ok (N := N) h (by omega) (l := [⟨#[97]⟩, ⟨#[98]⟩, ⟨#[97]⟩, ⟨#[98]⟩, ⟨#[99]⟩]) (by decide) (by decide)
    have hx1 : x.size = 1 := by
      simp only [List.mem_cons, List.not_mem_nil, or_false] at hx
      rcases hx with rfl | rfl | rfl | rfl | rfl <;> rfl
    obtain ⟨s', w3, w4, w5, e2, h2, h3⟩ := ab_loop k n (m + 2) c'.f0 c'.f1 c'.f2 (s ++ x) (by omega) (by omega) (by omega) hc (by rw [ByteArray.size_append]; omega)
    rw [ByteArray.size_append] at h2
    refine ⟨s', w3, w4, w5, ?_, by omega, h3.up (by omega)⟩
    rw [F147.p0, decide_eq_true (by omega), cond_true, e, Option.bind_some, chk_T (by simp only; omega), Option.bind_some, w64_id (by omega) (by omega), show ((k + 1 : Nat) : Int) - 1 = (k : Int) from by omega]
    exact e2
theorem ab_ok (hN : 140737488355328 ≤ N) {c : T108} {m : Nat} (h : DC c m) (hm : m ≤ 1000000) {most : Nat} (hmost : most ≤ 100) : ∃ s c', F147.fn N c (most : Int) = some (s, c') ∧ s.size ≤ most ∧ DC c' (m + 1000) := by
  obtain ⟨r, c', e, r0, r1, hc⟩ := pick_ok (N := N) h (by omega) (n := (most : Int) + 1) (by omega)
  have r1 := r1 (by omega)
  obtain ⟨k, rfl⟩ : ∃ k : Nat, r = k := ⟨r.toNat, by omega⟩
  obtain ⟨s', w3, w4, w5, e2, h2, h3⟩ := ab_loop (N := N) k N (m + 2) c'.f0 c'.f1 c'.f2 ByteArray.empty (by omega) (by omega) (by omega) hc (by have : ByteArray.empty.size = 0 := rfl; omega)
  refine ⟨s', _, by rw [F147.fn, w64_id (by omega) (by omega), e, Option.bind_some, e2, Option.bind_some], ?_, h3.up (by omega)⟩
  have : ByteArray.empty.size = 0 := rfl
  omega
end Go.Eng
set_option linter.unusedVariables false
set_option linter.unusedSimpArgs false
set_option maxRecDepth 100000
namespace Go.Eng
variable {N : Nat}
theorem rules_loop (hN : 140737488355328 ≤ N) : ∀ (k n m : Nat) (v7 : List Int) (v8 v9 : Int) (l : List T174), k < n → k ≤ 10 → m + 3000 * k ≤ 500000 → DC ⟨v7, v8, v9⟩ m → l.length + k ≤ 20 → (∀ x ∈ l, x.f0.size ≤ 1000 ∧ x.f1.size ≤ 1000) → ∃ l' w7 w8 w9, F84.p0 N n v7 v8 v9 l (k : Int) = some (w7, w8, w9, l') ∧ l'.length ≤ 20 ∧ (∀ x ∈ l', x.f0.size ≤ 1000 ∧ x.f1.size ≤ 1000) ∧ DC ⟨w7, w8, w9⟩ (m + 3000 * k)
  | 0, n + 1, m, v7, v8, v9, l, _, _, _, h, hl, hz => ⟨l, v7, v8, v9, by rw [F84.p0]; rfl, by omega, hz, h⟩
  | k + 1, n + 1, m, v7, v8, v9, l, hn, hk, hm, h, hl, hz => by
    obtain ⟨x, c1, e1, hx, h1⟩ := ab_ok hN h (by omega) (most := 3) (by omega)
    obtain ⟨y, c2, e2, hy, h2⟩ := ab_ok hN h1 (by omega) (most := 3) (by omega)
    have e1 : F147.fn N ⟨v7, v8, v9⟩ 3 = some (x, c1) := e1
    have e2 : F147.fn N c1 3 = some (y, c2) := e2
    obtain ⟨b3, c3, e3, h3⟩ : ∃ b c3, F84.p1 N c2.f0 c2.f1 c2.f2 l ((k + 1 : Nat) : Int) x y = some (c3.f0, c3.f1, c3.f2, b) ∧ DC c3 (m + 2100) := by
      rw [F84.p1, F139_fn, Option.bind_some]
      cases decide (Less (d y) (d x))
      · obtain ⟨r, c3, e, hc⟩ := one_ok (N := N) (c := c2) h2 (by omega) (n := 12) (by omega)
        exact ⟨!r, c3, by rw [Bool.not_false, cond_true, show (⟨c2.f0, c2.f1, c2.f2⟩ : T108) = c2 from rfl, e, Option.bind_some], hc.up (by omega)⟩
      · exact ⟨false, c2, rfl, h2.up (by omega)⟩
    obtain ⟨u, w, e4, hu, hw⟩ : ∃ u w, F84.p2 N c3.f0 c3.f1 c3.f2 l ((k + 1 : Nat) : Int) x y b3 = some (u, w) ∧ u.size ≤ 3 ∧ w.size ≤ 3 := by
      rw [F84.p2]
      cases b3
      · exact ⟨x, y, rfl, hx, hy⟩
      · exact ⟨y, x, rfl, hy, hx⟩
    obtain ⟨b5, c5, e5, h5⟩ : ∃ b c5, F84.p3 N c3.f0 c3.f1 c3.f2 l ((k + 1 : Nat) : Int) u w = some (c5.f0, c5.f1, c5.f2, b) ∧ DC c5 (m + 2200) := by
      rw [F84.p3]
      cases sEq u w
      · exact ⟨true, c3, rfl, h3.up (by omega)⟩
      · obtain ⟨r, c5, e, hc⟩ := one_ok (N := N) (c := c3) h3 (by omega) (n := 12) (by omega)
        exact ⟨r, c5, by rw [Bool.not_true, cond_false, show (⟨c3.f0, c3.f1, c3.f2⟩ : T108) = c3 from rfl, e, Option.bind_some], hc.up (by omega)⟩
    rw [F84.p0, decide_eq_true (by omega), cond_true, e1, Option.bind_some, e2, Option.bind_some, e3, Option.bind_some, e4, Option.bind_some, e5, Option.bind_some, w64_id (by omega) (by omega), show ((k + 1 : Nat) : Int) - 1 = (k : Int) from by omega]
    cases b5
    · obtain ⟨l', w7, w8, w9, q1, q2, q3, q4⟩ := rules_loop hN k n (m + 2200) c5.f0 c5.f1 c5.f2 l (by omega) (by omega) (by omega) h5 (by omega) hz
      exact ⟨l', w7, w8, w9, q1, q2, q3, q4.up (by omega)⟩
    · obtain ⟨l', w7, w8, w9, q1, q2, q3, q4⟩ := rules_loop hN k n (m + 2200) c5.f0 c5.f1 c5.f2 (l ++ [⟨u, w⟩]) (by omega) (by omega) (by omega) h5 (by rw [List.length_append, List.length_singleton]; omega) (fun z hz2 => by
        rcases List.mem_append.1 hz2 with g | g
        · exact hz z g
        · rw [List.mem_singleton] at g
          subst g
          exact ⟨by simp only; omega, by simp only; omega⟩)
      refine ⟨l', w7, w8, w9, ?_, q2, q3, q4.up (by omega)⟩
      rw [cond_true, chk_T (by omega), Option.bind_some]
      exact q1
theorem rules_ok (hN : 140737488355328 ≤ N) {c : T108} {m : Nat} (h : DC c m) (hm : m ≤ 1000) : ∃ l c', F84.fn N c = some (l, c') ∧ Drawn l ∧ DC c' 100000 := by
  obtain ⟨r, c1, e1, r0, r1, h1⟩ := pick_ok (N := N) h (by omega) (n := 6) (by omega)
  rw [F84.fn, e1, Option.bind_some]
  by_cases g0 : r = 0
  · refine ⟨_, _, by rw [decide_eq_true g0, cond_true], ⟨by simp, fun x hx => ?_⟩, h1.up (by omega)⟩
    simp only [List.mem_cons, List.not_mem_nil, or_false] at hx
    rcases hx with rfl | rfl | rfl <;> decide
  · rw [decide_eq_false g0, cond_false]
    by_cases g1 : r = 1
    · refine ⟨_, _, by rw [decide_eq_true g1, cond_true], ⟨by simp, fun x hx => ?_⟩, h1.up (by omega)⟩
      simp only [List.mem_cons, List.not_mem_nil, or_false] at hx
      rcases hx with rfl | rfl | rfl <;> decide
    · obtain ⟨q, c2, e2, q0, q1, h2⟩ := pick_ok (N := N) h1 (by omega) (n := 4) (by omega)
      have q1 := q1 (by omega)
      obtain ⟨k, rfl⟩ : ∃ k : Nat, q = k := ⟨q.toNat, by omega⟩
      obtain ⟨l, w7, w8, w9, e3, l1, l2, h3⟩ := rules_loop hN k N (m + 4) c2.f0 c2.f1 c2.f2 [] (by omega) (by omega) (by omega) h2 (by simp only [List.length_nil]; omega) (fun x hx => by cases hx)
      rw [decide_eq_false g1, cond_false, e2, Option.bind_some, e3, Option.bind_some, F84.p4]
      simp only
      by_cases g2 : (l.length : Int) > 0
      · obtain ⟨b, c4, e4, h4⟩ := one_ok (N := N) h3 (by omega) (n := 30) (by omega)
        rw [decide_eq_true g2, cond_true, e4, Option.bind_some, Option.bind_some]
        simp only
        cases b
        · exact ⟨_, _, rfl, ⟨by omega, l2⟩, h4.up (by omega)⟩
        · obtain ⟨s, c5, e5, hs, h5⟩ := of_ok (N := N) (c := c4) h4 (by omega) (l := [⟨#[101]⟩, ⟨#[97, 97, 97, 97, 97, 97, 97]⟩]) (by decide) (by decide)
          have hs1 : s.size ≤ 1000 := by
            simp only [List.mem_cons, List.not_mem_nil, or_false] at hs
            rcases hs with rfl | rfl <;> decide
          have i0 : idx 0 l.length = some 0 := idx_nat (k := 0) (by omega)
          have e5 : F148.fn N ⟨c4.f0, c4.f1, c4.f2⟩ [⟨#[101]⟩, ⟨#[97, 97, 97, 97, 97, 97, 97]⟩] = some (s, c5) := e5
          rw [cond_true, e5, Option.bind_some, i0, Option.bind_some]
          refine ⟨_, _, rfl, ⟨by rw [List.length_set]; omega, fun x hx => ?_⟩, h5.up (by omega)⟩
          rcases List.mem_or_eq_of_mem_set hx with g | rfl
          · exact l2 x g
          · have hg : l.getD 0 default ∈ l := by
              rw [List.getD, List.getElem?_eq_getElem (by omega)]
              exact List.getElem_mem (by omega)
            exact ⟨(l2 _ hg).1, hs1⟩
      · rw [decide_eq_false g2, cond_false, Option.bind_some]
        exact ⟨_, _, rfl, ⟨by omega, l2⟩, h3.up (by omega)⟩
theorem word_ok (hN : 140737488355328 ≤ N) {c : T108} {m : Nat} (h : DC c m) (hm : m ≤ 500000) : ∃ s c', F85.fn N c = some (s, c') ∧ s.size ≤ 1000 ∧ DC c' (m + 2000) := by
  obtain ⟨x, c1, e1, hx, h1⟩ := ab_ok hN h (by omega) (most := 12) (by omega)
  have e1 : F147.fn N c 12 = some (x, c1) := e1
  obtain ⟨b, c2, e2, h2⟩ := one_ok (N := N) h1 (by omega) (n := 20) (by omega)
  rw [F85.fn, e1, Option.bind_some, e2, Option.bind_some]
  cases b
  · exact ⟨_, _, rfl, by simp only; omega, h2.up (by omega)⟩
  · obtain ⟨s, c3, e3, hs, h3⟩ := of_ok (N := N) h2 (by omega) (l := [⟨#[101]⟩, ⟨#[100, 100, 100, 100, 100, 100, 100, 100, 100, 100, 100, 100, 100, 100, 100, 100, 100, 100, 100, 100, 100, 100, 100, 100, 100, 100, 100, 100, 100, 100, 100, 100, 100, 100, 100, 100, 100, 100, 100, 100]⟩]) (by decide) (by decide)
    have hs1 : s.size ≤ 40 := by
      simp only [List.mem_cons, List.not_mem_nil, or_false] at hs
      rcases hs with rfl | rfl <;> decide
    simp only
    rw [cond_true, e3, Option.bind_some, chk_T (by simp only; omega), Option.bind_some]
    exact ⟨_, _, rfl, by simp only; rw [ByteArray.size_append]; omega, h3.up (by omega)⟩
theorem draw_ok (hN : 140737488355328 ≤ N) {code : List Int} (h1 : code.length ≤ 4000000) (h2 : ∀ x ∈ code, 0 ≤ x ∧ x ≤ 255) : ∃ l s, F14.fn N code = some (l, s) ∧ Drawn l ∧ s.size ≤ 1000 := by
  obtain ⟨l, c1, e1, hl, k1⟩ := rules_ok hN (c := ⟨code, 0, 0⟩) (m := 0) ⟨h1, h2, Int.le_refl _, by simp⟩ (by omega)
  obtain ⟨s, c2, e2, hs, _⟩ := word_ok hN k1 (by omega)
  exact ⟨l, s, by rw [F14.fn, F74.fn, e1, Option.bind_some, e2, Option.bind_some, Option.bind_some], hl, hs⟩
theorem onceL_size {l : List T174} {s x : ByteArray} (h : x ∈ (onceL l s).1) : x.size ≤ s.size := by
  unfold onceL at h
  cases g : asked l s with
  | false => rw [g] at h; cases h
  | true => rw [g] at h; exact onL_size (asked_of g).1 h
theorem onceL_len {l : List T174} {s : ByteArray} (hd : Drawn l) (hs : s.size ≤ 1000) : (onceL l s).1.length ≤ 100000 := by
  unfold onceL
  cases asked l s with
  | false => exact Nat.zero_le _
  | true =>
    have h1 := onL_len (s := s) l
    have h2 : l.length * s.size ≤ 100 * 1000 := Nat.mul_le_mul hd.n hs
    show (onL l s).length ≤ _
    omega
theorem draw2_ok (hN : 140737488355328 ≤ N) {code : List Int} (h1 : code.length ≤ 4000000) (h2 : ∀ x ∈ code, 0 ≤ x ∧ x ≤ 255) : ∃ l a b, F24.fn N code = some (l, a, b) ∧ Drawn l ∧ a.size ≤ 1000 ∧ b.size ≤ 1000 := by
  obtain ⟨l, c1, e1, hl, k1⟩ := rules_ok hN (c := ⟨code, 0, 0⟩) (m := 0) ⟨h1, h2, Int.le_refl _, by simp⟩ (by omega)
  obtain ⟨s, c2, e2, hs, k2⟩ := word_ok hN k1 (by omega)
  have eo := (once_same hN hl (s := s) (by omega)).2
  have hol := onceL_len hl hs
  rw [F24.fn, e1, Option.bind_some, e2, Option.bind_some, eo, Option.bind_some]
  obtain ⟨b, c3, e3, k3⟩ : ∃ b c3, F24.p0 N c2.f0 c2.f1 c2.f2 l s (onceL l s).1 (onceL l s).2 = some (c3.f0, c3.f1, c3.f2, b && decide (((onceL l s).1.length : Int) > 0)) ∧ DC c3 200000 := by
    rw [F24.p0]
    cases (onceL l s).2
    · exact ⟨false, c2, rfl, k2.up (by omega)⟩
    · rw [cond_true]
      by_cases g : ((onceL l s).1.length : Int) > 0
      · obtain ⟨b, c3, e, k3⟩ := one_ok (N := N) (c := c2) k2 (by omega) (n := 2) (by omega)
        have e : F87.fn N ⟨c2.f0, c2.f1, c2.f2⟩ 2 = some (b, c3) := e
        exact ⟨b, c3, by rw [decide_eq_true g, cond_true, e, Option.bind_some, Bool.and_true], k3.up (by omega)⟩
      · exact ⟨false, c2, by rw [decide_eq_false g]; rfl, k2.up (by omega)⟩
  rw [e3, Option.bind_some]
  simp only
  cases g : b && decide (((onceL l s).1.length : Int) > 0) with
  | false =>
    obtain ⟨s2, c4, e4, hs2, _⟩ := word_ok hN (c := c3) k3 (by omega)
    have e4 : F85.fn N ⟨c3.f0, c3.f1, c3.f2⟩ = some (s2, c4) := e4
    rw [cond_false, e4, Option.bind_some]
    exact ⟨_, _, _, rfl, hl, hs, hs2⟩
  | true =>
    simp only [Bool.and_eq_true, decide_eq_true_eq] at g
    obtain ⟨r, c4, e4, r0, r1, _⟩ := pick_ok (N := N) (c := c3) k3 (by omega) (n := ((onceL l s).1.length : Int)) (by omega)
    have e4 : F88.fn N ⟨c3.f0, c3.f1, c3.f2⟩ ((onceL l s).1.length : Int) = some (r, c4) := e4
    obtain ⟨j, ej, hj, _⟩ := idx_of r0 (r1 (by omega))
    rw [cond_true, e4, Option.bind_some, ej, Option.bind_some]
    exact ⟨_, _, _, rfl, hl, hs, Nat.le_trans (onceL_size (getD_mem hj)) hs⟩
theorem number_p {v : List Int} (hv : v.length < 140737488355328) (hb : ∀ x ∈ v, 0 ≤ x ∧ x ≤ 255) : ∀ (t : List Int) (k n : Nat) (x : Int), v.drop k = t → k ≤ v.length → t.length < n → 0 ≤ x → x < 1000003 → ∃ r, F23.p0 N v (v.length : Int) n x (k : Int) = some r ∧ 0 ≤ r
  | [], k, n + 1, x, h, hk, _, h0, _ => by
    obtain rfl := drop_nil_F h hk
    exact ⟨x, by rw [F23.p0, lt_F (Nat.le_refl _), cond_false], h0⟩
  | y :: t, k, n + 1, x, h, hk, hn, h0, h1 => by
    obtain ⟨g1, g2, g3⟩ := drop_cons_F (d := 0) h
    have hy := hb y (List.mem_of_mem_drop (h ▸ List.mem_cons_self))
    rw [F23.p0, lt_T g1, cond_true, idx_nat g1, Option.bind_some, g2, w64_nat (by omega), w64_id (i := 31 * x) (by omega) (by omega), w64_id (i := y) (by omega) (by omega), w64_id (by omega) (by omega)]
    exact number_p hv hb t (k + 1) n _ g3 (by omega) (by simpa using hn) (Int.tmod_nonneg _ (by omega)) (Int.tmod_lt_of_pos _ (by omega))
theorem number_ok (hN : 140737488355328 ≤ N) {v : List Int} (hv : v.length < 140737488355328) (hb : ∀ x ∈ v, 0 ≤ x ∧ x ≤ 255) : ∃ r, F23.fn N v = some r ∧ 0 ≤ r := by
  obtain ⟨r, e, h⟩ := number_p (N := N) hv hb v 0 N 0 rfl (Nat.zero_le _) (by omega) (by omega) (by omega)
  have e : F23.p0 N v (v.length : Int) N 0 (0 : Int) = some r := e
  exact ⟨r, by rw [F23.fn, e, Option.bind_some], h⟩
end Go.Eng
set_option linter.unusedVariables false
set_option linter.unusedSimpArgs false
set_option maxRecDepth 100000
namespace Go.Eng
variable {N : Nat}
theorem bne_same (b : Bool) : (b != b) = false := by cases b <;> rfl
/-- The law's second part, where the text has a normal form. -/
theorem F3_p1 (hN : 140737488355328 ≤ N) {more : List Int} (h1 : more.length ≤ 4000000) (h2 : ∀ x ∈ more, 0 ≤ x ∧ x ≤ 255) {l : List T174} (hd : Drawn l) {s : ByteArray} (hs : s.size ≤ 1000) : F3.p1 N more l s (normL l s).1 (normL l s).2.1 (lastL l s).1 (lastL l s).2 (confL l).1 (confL l).2 (normL l s).2.2 = some (.inr ()) := by
  rw [F3.p1]
  by_cases g : (normL l s).2.2 = true
  · rw [g, cond_true]
    have ha : asked l s = true := by
      unfold normL at g
      cases h : asked l s with
      | true => rfl
      | false => rw [h] at g; cases g
    obtain ⟨hl, hlet, hsz⟩ := asked_of ha
    have en : normL l s = nf0 l s := by unfold normL; rw [ha, cond_true]
    rw [en] at g ⊢
    obtain ⟨st, on, hn⟩ := runN_ok hl 400 s 0 g
    have st : Star (rsOf l) (d s) (d (nf0 l s).1) := st
    have on : onL l (nf0 l s).1 = [] := on
    have hn : ((nf0 l s).2.1 = 0 ∧ (nf0 l s).1 = s) ∨ (0 < (nf0 l s).2.1 ∧ Less (d (nf0 l s).1) (d s)) := hn
    have tl := star_let hl st hlet
    have ts := star_len hl st
    simp only [d_len] at ts
    have hR : gR l = true := by unfold asked at ha; simp only [Bool.and_eq_true] at ha; exact ha.1
    have at1 : asked l (nf0 l s).1 = true := by
      unfold asked lets
      rw [hR, tl, Bool.true_and, Bool.true_and]
      exact decide_eq_true (by omega)
    have e1 : onceL l (nf0 l s).1 = ([], true) := by unfold onceL; rw [at1, cond_true, on]
    have e2 : F3.p2 N more l s (nf0 l s).1 (nf0 l s).2.1 (lastL l s).1 (lastL l s).2 (confL l).1 (confL l).2 [] true = some false := by
      rw [F3.p2, Bool.not_true, cond_false, decide_eq_false (by simp), cond_false]
      rcases hn with ⟨n1, n2⟩ | ⟨n1, n2⟩
      · rw [n1, n2, sEq_self, decide_eq_true rfl, bne_same, cond_false, decide_eq_false (by omega), cond_false]
      · have hne : sEq (nf0 l s).1 s = false := by
          rw [Bool.eq_false_iff]
          intro h
          rw [sEq_iff.1 h] at n2
          exact Less.irrefl n2
        rw [hne, decide_eq_false (by omega), bne_same, cond_false, decide_eq_true (by omega), cond_true, F22_fn, Option.bind_some, decide_eq_true n2]
        rfl
    rw [(once_same hN hd (s := (nf0 l s).1) (by omega)).1, Option.bind_some, e1]
    simp only
    rw [e2, Option.bind_some, cond_false]
    have e3 : F3.p3 N more l s (nf0 l s).1 (lastL l s).1 (lastL l s).2 (confL l).1 (confL l).2 = some ((confL l).2 && (confL l).1) := by
      rw [F3.p3]
      cases (confL l).2 <;> rfl
    rw [e3, Option.bind_some]
    cases gc : (confL l).2 && (confL l).1 with
    | false => rfl
    | true =>
      simp only [Bool.and_eq_true] at gc
      have hc : cfL l (prL l l 0) true = some true := by
        unfold confL at gc
        rw [hR, cond_true] at gc
        cases h : cfL l (prL l l 0) true with
        | none => rw [h] at gc; exact absurd gc.1 (by decide)
        | some c => rw [h] at gc; rw [show c = true from gc.2]
      have cr := crit_of hl hc
      rw [cond_true]
      have e4 : F3.p4 N more l s (nf0 l s).1 (lastL l s).1 (lastL l s).2 = some false := by
        rw [F3.p4]
        cases gl : (lastL l s).2 with
        | false => rfl
        | true =>
          have el : lastL l s = ((runN l true 400 s 0).1, (runN l true 400 s 0).2.2) := by unfold lastL; rw [ha, cond_true]
          rw [el] at gl ⊢
          obtain ⟨st2, on2, _⟩ := runN_ok hl 400 s 0 gl
          have := one_end Less.wf (step_less hl) cr st2 st (normal_of hl on2) (normal_of hl on)
          rw [cond_true, sEq_iff.2 (d_inj this)]
          rfl
      rw [e4, Option.bind_some, cond_false, (once_same hN hd (s := s) (by omega)).1, Option.bind_some]
      have e5 : onceL l s = (onL l s, true) := by unfold onceL; rw [ha, cond_true]
      rw [e5]
      simp only
      rw [Bool.not_true, cond_false]
      by_cases gp : ((onL l s).length : Int) > 0
      · obtain ⟨r, er, r0⟩ := number_ok hN (v := more) (by omega) h2
        have r1 := Int.tmod_lt_of_pos r gp
        have r2 : 0 ≤ Int.tmod r ((onL l s).length : Int) := Int.tmod_nonneg _ r0
        obtain ⟨j, ej, hj, _⟩ := idx_of r2 r1
        have hx := getD_mem hj
        have hxs := onL_size hl hx
        rw [decide_eq_true gp, cond_true, er, Option.bind_some, chk_T (by omega), Option.bind_some, ej, Option.bind_some, (norm_same hN hd (s := (onL l s).getD j ByteArray.empty) (by omega)).1, Option.bind_some]
        cases go : (normL l ((onL l s).getD j ByteArray.empty)).2.2 with
        | false => rfl
        | true =>
          have stx := step_of hx
          have ax : asked l ((onL l s).getD j ByteArray.empty) = true := by
            unfold asked lets
            rw [hR, step_let hl stx hlet, Bool.true_and, Bool.true_and]
            exact decide_eq_true (by omega)
          have enx : normL l ((onL l s).getD j ByteArray.empty) = nf0 l ((onL l s).getD j ByteArray.empty) := by unfold normL; rw [ax, cond_true]
          rw [enx] at go ⊢
          obtain ⟨st2, on2, _⟩ := runN_ok hl 400 _ 0 go
          have := one_end Less.wf (step_less hl) cr (Star.head stx st2) st (normal_of hl on2) (normal_of hl on)
          have e6 : (nf0 l ((onL l s).getD j ByteArray.empty)).1 = (nf0 l s).1 := d_inj this
          rw [cond_true, e6, sEq_self]
          rfl
      · rw [decide_eq_false gp, cond_false]
  · rw [Bool.eq_false_iff.2 g, cond_false]
/-- The law. -/
theorem rewrite_law : ∀ (a0 : List Int) (a1 : List Int), (isL 1 (isI .u8)) a0 → (isL 1 (isI .u8)) a1 → ∃ n, F3.fn n a0 a1 = some true := fun a0 a1 h0 h1 => by
  suffices h : ∀ N, 140737488355328 ≤ N → F3.fn N a0 a1 = some true from ⟨_, h _ (Nat.le_refl _)⟩
  intro N hN
  have b0 := big_of_isL h0 (by decide)
  have b1 := big_of_isL h1 (by decide)
  have u8 : ∀ x : Int, isI .u8 x → 0 ≤ x ∧ x ≤ 255 := fun x hx => by
    unfold isI at hx
    simp [Lit.wf, IntKind.min, IntKind.max, IntKind.signed, IntKind.bits] at hx
    omega
  rw [F3.fn, w64_id (by omega) (by omega)]
  by_cases g : (a0.length : Int) + (a1.length : Int) > 1048576
  · rw [decide_eq_true g, cond_true]
  · rw [decide_eq_false g, cond_false]
    obtain ⟨l, s, e, hd, hs⟩ := draw_ok hN (code := a0) (by omega) (fun x hx => u8 x (h0.2 x hx))
    obtain ⟨l2, a, b, e2, hd2, ha, hb⟩ := draw2_ok hN (code := a1) (by omega) (fun x hx => u8 x (h1.2 x hx))
    obtain ⟨n1, n2, n3, n4⟩ := norm_same hN hd (s := s) (by omega)
    obtain ⟨c1, c2⟩ := conf_same hN hd
    obtain ⟨j1, j2⟩ := join_same hN hd2 (a := a) (b := b) (by omega) (by omega)
    rw [e, Option.bind_some]
    simp only
    rw [n1, Option.bind_some, n2, Option.bind_some, n3, Option.bind_some, n4, Option.bind_some, c1, Option.bind_some, c2, Option.bind_some]
    rw [F3.p0, bne_same, cond_false, sEq_self, Bool.not_true, cond_false, decide_eq_true rfl, Bool.not_true, cond_false, bne_same, cond_false, sEq_self, Bool.not_true, cond_false, bne_same, cond_false, bne_same, Option.bind_some, cond_false]
    rw [F3_p1 hN (by omega) (fun x hx => u8 x (h1.2 x hx)) hd hs, Option.bind_some]
    simp only [Sum.elim_inr]
    rw [e2, Option.bind_some]
    simp only
    rw [j1, Option.bind_some, j2, Option.bind_some]
    simp
end Go.Eng
namespace Go.Proofs.Yteenopeoblkakaa
theorem FnRewrite_proved : Rows.FnRewriteSaid := fnRewrite_holds Go.Eng.rewrite_law
end Go.Proofs.Yteenopeoblkakaa
