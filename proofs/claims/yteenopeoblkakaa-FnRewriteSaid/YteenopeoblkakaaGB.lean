/-
  The functions that the law reaches, each as a plain function over lists and numbers, and each one's contract: where the plain function answers, the code returns that answer. Conditions: none beyond what each contract says.
-/
import Derived.Test.YteenopeoblkakaaGA
set_option linter.unusedVariables false
set_option linter.unusedSimpArgs false
set_option linter.unnecessarySimpa false
set_option linter.unusedVariables false
set_option linter.unusedSimpArgs false
set_option maxRecDepth 100000
set_option maxHeartbeats 1000000
namespace Go.Eng
open Go.Proofs
namespace F144
/-! spec.l15Pairs -/
noncomputable def K0 := (subC [1, 1, 0, 1, 0] (bod Try.f144) []).2
noncomputable def L0 := (subC [1, 1, 0, 1, 0, 0] (bod Try.f144) []).1
noncomputable def K1 := (subC [0, 0] L0 []).2
noncomputable def B1 := (subC [0, 0] L0 []).1
noncomputable def K2 := (subC [1, 1, 1, 0, 1, 0] (bod Try.f144) []).2
noncomputable def L2 := (subC [1, 1, 1, 0, 1, 0, 0] (bod Try.f144) []).1
noncomputable def K3 := (subC [1, 0, 0, 0] L2 []).2
noncomputable def B3 := (subC [1, 0, 0, 0] L2 []).1
def I1 (same8 : Bool) (a9 : ByteArray) (a10 : ByteArray) (b11 : ByteArray) (b12 : ByteArray) (out13 : List (List ByteArray)) (n14 : Int) : TL := ⟨108, [C.dead, C.dead, C.dead], [(2, C.v (vB same8)), (3, C.pr 0 0), (4, C.pr 1 0), (7, C.sr 2 0 1 out13.length), (8, C.v (vI .i64 n14))], [(2, (cs (eS eT) out13))], [(0, [C.own (vT a9), C.own (vT a10)]), (1, [C.own (vT b11), C.own (vT b12)])]⟩
def J1_0 (same8 : Bool) (a9 : ByteArray) (a10 : ByteArray) (b11 : ByteArray) (b12 : ByteArray) (out13 : List (List ByteArray)) (n14 : Int) (o : Bool) : TL := ⟨108, [C.dead, C.dead, C.dead], [(2, C.v (vB same8)), (3, C.pr 0 0), (4, C.pr 1 0), (7, C.sr 2 0 1 out13.length), (8, C.v (vI .i64 n14)), (21, C.v (vB o))], [(2, (cs (eS eT) out13))], [(0, [C.own (vT a9), C.own (vT a10)]), (1, [C.own (vT b11), C.own (vT b12)])]⟩
def Q1 (same8 : Bool) (a9 : ByteArray) (a10 : ByteArray) (b11 : ByteArray) (b12 : ByteArray) (out13 : List (List ByteArray)) (n14 : Int) (r : Bool) (e : Exit) (st : St) : Prop := (fun o => e = .normal ∧ Le st (J1_0 same8 a9 a10 b11 b12 out13 n14 o).sl.st) r
def p1 (fuel : Nat) (same8 : Bool) (a9 : ByteArray) (a10 : ByteArray) (b11 : ByteArray) (b12 : ByteArray) (out13 : List (List ByteArray)) (n14 : Int) : Option Bool :=
  cond (decide (n14 < (a9.size : Int)))
  (some (decide (n14 < (b11.size : Int))))
  (some false)
theorem p1_c (fuel : Nat) (same8 : Bool) (a9 : ByteArray) (a10 : ByteArray) (b11 : ByteArray) (b12 : ByteArray) (out13 : List (List ByteArray)) (n14 : Int) (r : Bool) (h : p1 fuel same8 a9 a10 b11 b12 out13 n14 = some r) : TW Try.prog B1 (I1 same8 a9 a10 b11 b12 out13 n14).sl.st (Q1 same8 a9 a10 b11 b12 out13 n14 r) := by
  unfold p1 at h
  rcases cond_cases h with ⟨h15, h⟩ | ⟨h15, h⟩
  · 
    obtain rfl := Option.some.inj h
    exact runAt_S (Q := Q1 same8 a9 a10 b11 b12 out13 n14 _) (n := 100000) (c := (.code B1)) (K := []) (s := (I1 same8 a9 a10 b11 b12 out13 n14).sl) (e := .normal) (t := J1_0 same8 a9 a10 b11 b12 out13 n14 (decide (n14 < (b11.size : Int)))) (l := [(0, 0), (1, 1), (2, 2)])
      (hs := [hA, .h .sa, hA, .skip, .g (.env 15 (C.v (vB true))), hA, .h .sa, hA])
      (ps := [C.v (vB (decide (n14 < (a9.size : Int)))) = C.v (vB true), (same8 : Bool) = same8, 0 = 0, 0 = 0, 0 = 0, out13.length = out13.length, (n14 : Int) = n14, (decide (n14 < (b11.size : Int)) : Bool) = (decide (n14 < (b11.size : Int))), (own (cs (eS eT) out13)) = (cs (eS eT) out13).map C.own, Value.string a9 = Value.string a9, Value.string a10 = Value.string a10, Value.string b11 = Value.string b11, Value.string b12 = Value.string b12])
      (by kernel_rfl) ⟨vbB h15, rfl, rfl, rfl, rfl, rfl, rfl, rfl, rfl, rfl, rfl, rfl, rfl, trivial⟩ (fun st hl => ⟨rfl, hl⟩)
  · 
    obtain rfl := Option.some.inj h
    exact runAt_S (Q := Q1 same8 a9 a10 b11 b12 out13 n14 _) (n := 100000) (c := (.code B1)) (K := []) (s := (I1 same8 a9 a10 b11 b12 out13 n14).sl) (e := .normal) (t := J1_0 same8 a9 a10 b11 b12 out13 n14 false) (l := [(0, 0), (1, 1), (2, 2)])
      (hs := [hA, .h .sa, hA, .skip, .g (.env 15 (C.v (vB false)))])
      (ps := [C.v (vB (decide (n14 < (a9.size : Int)))) = C.v (vB false), (same8 : Bool) = same8, 0 = 0, 0 = 0, 0 = 0, out13.length = out13.length, (n14 : Int) = n14, (false : Bool) = false, (own (cs (eS eT) out13)) = (cs (eS eT) out13).map C.own, Value.string a9 = Value.string a9, Value.string a10 = Value.string a10, Value.string b11 = Value.string b11, Value.string b12 = Value.string b12])
      (by kernel_rfl) ⟨vbB h15, rfl, rfl, rfl, rfl, rfl, rfl, rfl, rfl, rfl, rfl, rfl, rfl, trivial⟩ (fun st hl => ⟨rfl, hl⟩)
def I0 (same1 : Bool) (a2 : ByteArray) (a3 : ByteArray) (b4 : ByteArray) (b5 : ByteArray) (out6 : List (List ByteArray)) (n7 : Int) : TL := ⟨108, [C.dead, C.dead, C.dead], [(2, C.v (vB same1)), (3, C.pr 0 0), (4, C.pr 1 0), (7, C.sr 2 0 1 out6.length), (8, C.v (vI .i64 n7))], [(2, (cs (eS eT) out6))], [(0, [C.own (vT a2), C.own (vT a3)]), (1, [C.own (vT b4), C.own (vT b5)])]⟩
def J0_0 (same1 : Bool) (a2 : ByteArray) (a3 : ByteArray) (b4 : ByteArray) (b5 : ByteArray) (o : (List (List ByteArray))) : TL := ⟨108, [C.dead, C.dead, C.dead], [(2, C.v (vB same1)), (3, C.pr 0 0), (4, C.pr 1 0), (7, C.sr 2 0 1 o.length)], [(2, (cs (eS eT) o))], [(0, [C.own (vT a2), C.own (vT a3)]), (1, [C.own (vT b4), C.own (vT b5)])]⟩
def Q0 (same1 : Bool) (a2 : ByteArray) (a3 : ByteArray) (b4 : ByteArray) (b5 : ByteArray) (r : (List (List ByteArray))) (e : Exit) (st : St) : Prop := (fun o => e = (.exit 0) ∧ Le st (J0_0 same1 a2 a3 b4 b5 o).sl.st) r
def p0 (fuel : Nat) (same1 : Bool) (a2 : ByteArray) (a3 : ByteArray) (b4 : ByteArray) (b5 : ByteArray) : Nat → (List (List ByteArray)) → Int → Option (List (List ByteArray))
  | 0, _, _ => none
  | n + 1, out6, n7 =>
    (p1 fuel same1 a2 a3 b4 b5 out6 n7).bind fun r16 =>
    cond (r16)
    ((toN (w64 ((a2.size : Int) - n7))).bind fun n19 =>
      (chk (n19 ≤ a2.size)).bind fun _ =>
      (toN n7).bind fun n22 =>
      (chk (n22 ≤ b4.size)).bind fun _ =>
      cond (sEq (a2.extract n19 a2.size) (b4.extract 0 n22))
      ((chk (a3.size + (b4.extract n22 b4.size).size ≤ 9223372036854775807)).bind fun _ =>
        (chk ((a2.extract 0 n19).size + b5.size ≤ 9223372036854775807)).bind fun _ =>
        (chk ((out6.length + 1) * 24 ≤ 140737488355328)).bind fun _ =>
        p0 fuel same1 a2 a3 b4 b5 n (out6 ++ ([([a3 ++ (b4.extract n22 b4.size), (a2.extract 0 n19) ++ b5] : List ByteArray)] : List (List ByteArray))) (w64 (n7 + 1)))
      (p0 fuel same1 a2 a3 b4 b5 n out6 (w64 (n7 + 1))))
    (some out6)
theorem p0_c (fuel : Nat) (same1 : Bool) (a2 : ByteArray) (a3 : ByteArray) (b4 : ByteArray) (b5 : ByteArray) (n : Nat) (out6 : List (List ByteArray)) (n7 : Int) (r : (List (List ByteArray))) (h : p0 fuel same1 a2 a3 b4 b5 n out6 n7 = some r) : TW Try.prog (.loop L0) (I0 same1 a2 a3 b4 b5 out6 n7).sl.st (Q0 same1 a2 a3 b4 b5 r) := by
  refine loop_run (σ := (List (List ByteArray)) × Int) (fun x => I0 same1 a2 a3 b4 b5 x.1 x.2) (fun n x => p0 fuel same1 a2 a3 b4 b5 n x.1 x.2) (Q0 same1 a2 a3 b4 b5) ?_ (fun _ => rfl) (x := (out6, n7)) h
  clear h
  rintro n ⟨out6, n7⟩ r h
  replace h : p0 fuel same1 a2 a3 b4 b5 (n + 1) out6 n7 = some r := h
  rw [p0] at h
  obtain ⟨r16, h17, h⟩ := bind_cases h
  refine runTo_S (n := 2) (c := (.code L0)) (K := []) (s := (I0 same1 a2 a3 b4 b5 out6 n7).sl) (b := (.code B1)) (K1 := K1) (t := I1 same1 a2 a3 b4 b5 out6 n7) (l := [(0, 0), (1, 1), (2, 2)])
    (hs := [])
    (ps := [(same1 : Bool) = same1, 0 = 0, 0 = 0, 0 = 0, out6.length = out6.length, (n7 : Int) = n7, (own (cs (eS eT) out6)) = (cs (eS eT) out6).map C.own, Value.string a2 = Value.string a2, Value.string a3 = Value.string a3, Value.string b4 = Value.string b4, Value.string b5 = Value.string b5])
    (by kernel_rfl) ⟨rfl, rfl, rfl, rfl, rfl, rfl, rfl, rfl, rfl, rfl, rfl, trivial⟩ (cut_code ?_)
  refine TW.mono_le (p1_c fuel same1 a2 a3 b4 b5 out6 n7 _ h17) ?_
  rintro e st hq
  obtain ⟨rfl, hl⟩ := hq
  refine ⟨_, hl, ?_⟩
  rcases cond_cases h with ⟨h18, h⟩ | ⟨h18, h⟩
  · 
    obtain ⟨n19, h20, h⟩ := bind_cases h
    obtain ⟨_, h21, h⟩ := bind_cases h
    obtain ⟨n22, h23, h⟩ := bind_cases h
    obtain ⟨_, h24, h⟩ := bind_cases h
    rcases cond_cases h with ⟨h25, h⟩ | ⟨h25, h⟩
    · 
      obtain ⟨_, h26, h⟩ := bind_cases h
      obtain ⟨_, h27, h⟩ := bind_cases h
      obtain ⟨_, h28, h⟩ := bind_cases h
      exact runAt_S (Q := Round _ (n + 1) _) (n := 100000) (c := (.out .normal)) (K := K1) (s := (J1_0 same1 a2 a3 b4 b5 out6 n7 r16).sl) (e := .normal) (t := I0 same1 a2 a3 b4 b5 (out6 ++ ([([a3 ++ (b4.extract n22 b4.size), (a2.extract 0 n19) ++ b5] : List ByteArray)] : List (List ByteArray))) (w64 (n7 + 1))) (l := [(0, 0), (1, 1), (2, 5)])
        (hs := [.g (.env 21 (C.v (vB true))), .any [[], [], [], [], [], [], [], [], [], [], [], [], []], hA, hA, .h .sa, hA, .h (.ss n19 a2.size), hA, .h (.ss 0 n22), hA, .g (.env 36 (C.v (vB true))), .any [[], [], [], [], [], [], [], [], [], [], [], [], [], [], [], [], [], [], [], [3], [4], [2, 3, 5], []], hA, hA, .h (.ss n22 b4.size), .h .sa, hA, hA, .h .sa, hA, .h (.ss 0 n19), hA, .h .sa, .h (.new 3), .h (.new 4), .h (.apc 5 [(3, (cs eT ([a3 ++ (b4.extract n22 b4.size), (a2.extract 0 n19) ++ b5] : List ByteArray)), (cs eT ([a3 ++ (b4.extract n22 b4.size), (a2.extract 0 n19) ++ b5] : List ByteArray)))] 9 (own (cs (eS eT) (out6 ++ ([([a3 ++ (b4.extract n22 b4.size), (a2.extract 0 n19) ++ b5] : List ByteArray)] : List (List ByteArray)))))), hA])
        (ps := [C.v (vB r16) = C.v (vB true), (w64 ((a2.size : Int) - n7) : Int) = ((n19 : Nat) : Int), (a2.size : Int) = ((a2.size : Nat) : Int), n19 ≤ a2.size, a2.size ≤ a2.size, (0 : Int) = ((0 : Nat) : Int), (n7 : Int) = ((n22 : Nat) : Int), 0 ≤ n22, n22 ≤ b4.size, C.v (vB (sEq (a2.extract n19 a2.size) (b4.extract 0 n22))) = C.v (vB true), (n7 : Int) = ((n22 : Nat) : Int), (b4.size : Int) = ((b4.size : Nat) : Int), n22 ≤ b4.size, b4.size ≤ b4.size, a3.size + (b4.extract n22 b4.size).size ≤ 9223372036854775807, (0 : Int) = ((0 : Nat) : Int), (w64 ((a2.size : Int) - n7) : Int) = ((n19 : Nat) : Int), 0 ≤ n19, n19 ≤ a2.size, (a2.extract 0 n19).size + b5.size ≤ 9223372036854775807, (own (cs eT ([a3 ++ (b4.extract n22 b4.size), (a2.extract 0 n19) ++ b5] : List ByteArray))) = (cs eT ([a3 ++ (b4.extract n22 b4.size), (a2.extract 0 n19) ++ b5] : List ByteArray)).map C.own, 0 + 2 * 1 ≤ (cs eT ([a3 ++ (b4.extract n22 b4.size), (a2.extract 0 n19) ++ b5] : List ByteArray)).length, ((cs eT ([a3 ++ (b4.extract n22 b4.size), (a2.extract 0 n19) ++ b5] : List ByteArray)).drop (0)).take (2 * 1) = (cs eT ([a3 ++ (b4.extract n22 b4.size), (a2.extract 0 n19) ++ b5] : List ByteArray)), 0 + out6.length * 1 ≤ (own (cs (eS eT) out6)).length, (out6.length + 1) * 24 ≤ 140737488355328, ((own (cs (eS eT) out6)).drop 0).take (out6.length * 1) ++ (([(.sl 1 2 (cs eT ([a3 ++ (b4.extract n22 b4.size), (a2.extract 0 n19) ++ b5] : List ByteArray)))] : List V).map C.own) = (own (cs (eS eT) (out6 ++ ([([a3 ++ (b4.extract n22 b4.size), (a2.extract 0 n19) ++ b5] : List ByteArray)] : List (List ByteArray))))), (same1 : Bool) = same1, 0 = 0, 0 = 0, 0 = 0, out6.length + 1 = (out6 ++ ([([a3 ++ (b4.extract n22 b4.size), (a2.extract 0 n19) ++ b5] : List ByteArray)] : List (List ByteArray))).length, (w64 (n7 + 1) : Int) = (w64 (n7 + 1)), (own (cs (eS eT) (out6 ++ ([([a3 ++ (b4.extract n22 b4.size), (a2.extract 0 n19) ++ b5] : List ByteArray)] : List (List ByteArray))))) = (cs (eS eT) (out6 ++ ([([a3 ++ (b4.extract n22 b4.size), (a2.extract 0 n19) ++ b5] : List ByteArray)] : List (List ByteArray)))).map C.own, Value.string a2 = Value.string a2, Value.string a3 = Value.string a3, Value.string b4 = Value.string b4, Value.string b5 = Value.string b5])
        (by kernel_rfl) ⟨vbB h18, (toN_S h20), rfl, (chk_S h21), (Nat.le_refl _), rfl, (toN_S h23), (Nat.zero_le _), (chk_S h24), vbB h25, (toN_S h23), rfl, (chk_S h24), (Nat.le_refl _), (chk_S h26), rfl, (toN_S h20), (Nat.zero_le _), (chk_S h21), (chk_S h27), rfl, len_all (e := eT) (rfl), take_cs (e := eT) (rfl), own_len (e := (eS eT)) (rfl), (chk_S h28), own_app (e := (eS eT)) (rfl) rfl, rfl, rfl, rfl, rfl, app_ln (rfl) (rfl), rfl, rfl, rfl, rfl, rfl, rfl, trivial⟩ (fun st hl => ⟨n, _, Nat.lt_succ_self n, hl, (out6 ++ ([([a3 ++ (b4.extract n22 b4.size), (a2.extract 0 n19) ++ b5] : List ByteArray)] : List (List ByteArray)), w64 (n7 + 1)), rfl, rfl, h⟩)
    · 
      exact runAt_S (Q := Round _ (n + 1) _) (n := 100000) (c := (.out .normal)) (K := K1) (s := (J1_0 same1 a2 a3 b4 b5 out6 n7 r16).sl) (e := .normal) (t := I0 same1 a2 a3 b4 b5 out6 (w64 (n7 + 1))) (l := [(0, 0), (1, 1), (2, 2)])
        (hs := [.g (.env 21 (C.v (vB true))), .any [[], [], [], [], [], [], [], [], [], [], [], [], []], hA, hA, .h .sa, hA, .h (.ss n19 a2.size), hA, .h (.ss 0 n22), hA, .g (.env 36 (C.v (vB false))), hA])
        (ps := [C.v (vB r16) = C.v (vB true), (w64 ((a2.size : Int) - n7) : Int) = ((n19 : Nat) : Int), (a2.size : Int) = ((a2.size : Nat) : Int), n19 ≤ a2.size, a2.size ≤ a2.size, (0 : Int) = ((0 : Nat) : Int), (n7 : Int) = ((n22 : Nat) : Int), 0 ≤ n22, n22 ≤ b4.size, C.v (vB (sEq (a2.extract n19 a2.size) (b4.extract 0 n22))) = C.v (vB false), (same1 : Bool) = same1, 0 = 0, 0 = 0, 0 = 0, out6.length = out6.length, (w64 (n7 + 1) : Int) = (w64 (n7 + 1)), (own (cs (eS eT) out6)) = (cs (eS eT) out6).map C.own, Value.string a2 = Value.string a2, Value.string a3 = Value.string a3, Value.string b4 = Value.string b4, Value.string b5 = Value.string b5])
        (by kernel_rfl) ⟨vbB h18, (toN_S h20), rfl, (chk_S h21), (Nat.le_refl _), rfl, (toN_S h23), (Nat.zero_le _), (chk_S h24), vbB h25, rfl, rfl, rfl, rfl, rfl, rfl, rfl, rfl, rfl, rfl, rfl, trivial⟩ (fun st hl => ⟨n, _, Nat.lt_succ_self n, hl, (out6, w64 (n7 + 1)), rfl, rfl, h⟩)
  · 
    obtain rfl := Option.some.inj h
    exact runAt_S (Q := Round _ (n + 1) _) (n := 100000) (c := (.out .normal)) (K := K1) (s := (J1_0 same1 a2 a3 b4 b5 out6 n7 r16).sl) (e := (.exit 0)) (t := J0_0 same1 a2 a3 b4 b5 out6) (l := [(0, 0), (1, 1), (2, 2)])
      (hs := [.g (.env 21 (C.v (vB false)))])
      (ps := [C.v (vB r16) = C.v (vB false), (same1 : Bool) = same1, 0 = 0, 0 = 0, 0 = 0, out6.length = out6.length, (own (cs (eS eT) out6)) = (cs (eS eT) out6).map C.own, Value.string a2 = Value.string a2, Value.string a3 = Value.string a3, Value.string b4 = Value.string b4, Value.string b5 = Value.string b5])
      (by kernel_rfl) ⟨vbB h18, rfl, rfl, rfl, rfl, rfl, rfl, rfl, rfl, rfl, rfl, trivial⟩ (fun st hl => ⟨rfl, hl⟩)
def I3 (same39 : Bool) (a40 : ByteArray) (a41 : ByteArray) (b42 : ByteArray) (b43 : ByteArray) (out44 : List (List ByteArray)) (at45 : Int) : TL := ⟨108, [C.dead, C.dead, C.dead], [(2, C.v (vB same39)), (3, C.pr 0 0), (4, C.pr 1 0), (7, C.sr 2 0 1 out44.length), (9, C.v (vI .i64 at45))], [(2, (cs (eS eT) out44))], [(0, [C.own (vT a40), C.own (vT a41)]), (1, [C.own (vT b42), C.own (vT b43)])]⟩
def J3_0 (same39 : Bool) (a40 : ByteArray) (a41 : ByteArray) (b42 : ByteArray) (b43 : ByteArray) (out44 : List (List ByteArray)) (at45 : Int) (o : Bool) : TL := ⟨108, [C.dead, C.dead, C.dead], [(2, C.v (vB same39)), (3, C.pr 0 0), (4, C.pr 1 0), (7, C.sr 2 0 1 out44.length), (9, C.v (vI .i64 at45)), (84, C.v (vB o))], [(2, (cs (eS eT) out44))], [(0, [C.own (vT a40), C.own (vT a41)]), (1, [C.own (vT b42), C.own (vT b43)])]⟩
def Q3 (same39 : Bool) (a40 : ByteArray) (a41 : ByteArray) (b42 : ByteArray) (b43 : ByteArray) (out44 : List (List ByteArray)) (at45 : Int) (r : Bool) (e : Exit) (st : St) : Prop := (fun o => e = .normal ∧ Le st (J3_0 same39 a40 a41 b42 b43 out44 at45 o).sl.st) r
def p3 (fuel : Nat) (same39 : Bool) (a40 : ByteArray) (a41 : ByteArray) (b42 : ByteArray) (b43 : ByteArray) (out44 : List (List ByteArray)) (at45 : Int) : Option Bool :=
  (F208.fn fuel a40 b42 at45).bind fun r46 =>
  cond (r46)
  (cond (!same39)
    (some true)
    (some (decide ((b42.size : Int) < (a40.size : Int)))))
  (some false)
theorem p3_c (fuel : Nat) (same39 : Bool) (a40 : ByteArray) (a41 : ByteArray) (b42 : ByteArray) (b43 : ByteArray) (out44 : List (List ByteArray)) (at45 : Int) (r : Bool) (h : p3 fuel same39 a40 a41 b42 b43 out44 at45 = some r) : TW Try.prog B3 (I3 same39 a40 a41 b42 b43 out44 at45).sl.st (Q3 same39 a40 a41 b42 b43 out44 at45 r) := by
  unfold p3 at h
  obtain ⟨r46, h47, h⟩ := bind_cases h
  rcases cond_cases h with ⟨h48, h⟩ | ⟨h48, h⟩
  · 
    rcases cond_cases h with ⟨h49, h⟩ | ⟨h49, h⟩
    · 
      obtain rfl := Option.some.inj h
      exact runAt_S (Q := Q3 same39 a40 a41 b42 b43 out44 at45 _) (n := 100000) (c := (.code B3)) (K := []) (s := (I3 same39 a40 a41 b42 b43 out44 at45).sl) (e := .normal) (t := J3_0 same39 a40 a41 b42 b43 out44 at45 true) (l := [(0, 0), (1, 1), (2, 2)])
        (hs := [hA, hA, .call ⟨[.ro, .ro, .ro], 9, [], true, [], (vB r46), [], 3⟩, .skip, .g (.env 72 (C.v (vB true))), hA, .skip, .g (.env 75 (C.v (vB true)))])
        (ps := [CallOK Try.prog 208 [.ro (vT a40), .ro (vT b42), .ro (vI .i64 at45)] [] (vB r46), C.v (vB r46) = C.v (vB true), C.v (vB (!same39)) = C.v (vB true), (same39 : Bool) = same39, 0 = 0, 0 = 0, 0 = 0, out44.length = out44.length, (at45 : Int) = at45, (true : Bool) = true, (own (cs (eS eT) out44)) = (cs (eS eT) out44).map C.own, Value.string a40 = Value.string a40, Value.string a41 = Value.string a41, Value.string b42 = Value.string b42, Value.string b43 = Value.string b43])
        (by kernel_rfl) ⟨F208.fn_c fuel a40 b42 at45 _ h47, vbB h48, vbB h49, rfl, rfl, rfl, rfl, rfl, rfl, rfl, rfl, rfl, rfl, rfl, rfl, trivial⟩ (fun st hl => ⟨rfl, hl⟩)
    · 
      obtain rfl := Option.some.inj h
      exact runAt_S (Q := Q3 same39 a40 a41 b42 b43 out44 at45 _) (n := 100000) (c := (.code B3)) (K := []) (s := (I3 same39 a40 a41 b42 b43 out44 at45).sl) (e := .normal) (t := J3_0 same39 a40 a41 b42 b43 out44 at45 (decide ((b42.size : Int) < (a40.size : Int)))) (l := [(0, 0), (1, 1), (2, 2)])
        (hs := [hA, hA, .call ⟨[.ro, .ro, .ro], 9, [], true, [], (vB r46), [], 3⟩, .skip, .g (.env 72 (C.v (vB true))), hA, .skip, .g (.env 75 (C.v (vB false))), hA, .h .sa, hA, .h .sa, hA])
        (ps := [CallOK Try.prog 208 [.ro (vT a40), .ro (vT b42), .ro (vI .i64 at45)] [] (vB r46), C.v (vB r46) = C.v (vB true), C.v (vB (!same39)) = C.v (vB false), (same39 : Bool) = same39, 0 = 0, 0 = 0, 0 = 0, out44.length = out44.length, (at45 : Int) = at45, (decide ((b42.size : Int) < (a40.size : Int)) : Bool) = (decide ((b42.size : Int) < (a40.size : Int))), (own (cs (eS eT) out44)) = (cs (eS eT) out44).map C.own, Value.string a40 = Value.string a40, Value.string a41 = Value.string a41, Value.string b42 = Value.string b42, Value.string b43 = Value.string b43])
        (by kernel_rfl) ⟨F208.fn_c fuel a40 b42 at45 _ h47, vbB h48, vbB h49, rfl, rfl, rfl, rfl, rfl, rfl, rfl, rfl, rfl, rfl, rfl, rfl, trivial⟩ (fun st hl => ⟨rfl, hl⟩)
  · 
    obtain rfl := Option.some.inj h
    exact runAt_S (Q := Q3 same39 a40 a41 b42 b43 out44 at45 _) (n := 100000) (c := (.code B3)) (K := []) (s := (I3 same39 a40 a41 b42 b43 out44 at45).sl) (e := .normal) (t := J3_0 same39 a40 a41 b42 b43 out44 at45 false) (l := [(0, 0), (1, 1), (2, 2)])
      (hs := [hA, hA, .call ⟨[.ro, .ro, .ro], 9, [], true, [], (vB r46), [], 3⟩, .skip, .g (.env 72 (C.v (vB false)))])
      (ps := [CallOK Try.prog 208 [.ro (vT a40), .ro (vT b42), .ro (vI .i64 at45)] [] (vB r46), C.v (vB r46) = C.v (vB false), (same39 : Bool) = same39, 0 = 0, 0 = 0, 0 = 0, out44.length = out44.length, (at45 : Int) = at45, (false : Bool) = false, (own (cs (eS eT) out44)) = (cs (eS eT) out44).map C.own, Value.string a40 = Value.string a40, Value.string a41 = Value.string a41, Value.string b42 = Value.string b42, Value.string b43 = Value.string b43])
      (by kernel_rfl) ⟨F208.fn_c fuel a40 b42 at45 _ h47, vbB h48, rfl, rfl, rfl, rfl, rfl, rfl, rfl, rfl, rfl, rfl, rfl, rfl, trivial⟩ (fun st hl => ⟨rfl, hl⟩)
def I2 (same31 : Bool) (a32 : ByteArray) (a33 : ByteArray) (b34 : ByteArray) (b35 : ByteArray) (out36 : List (List ByteArray)) (at37 : Int) : TL := ⟨108, [C.dead, C.dead, C.dead], [(2, C.v (vB same31)), (3, C.pr 0 0), (4, C.pr 1 0), (7, C.sr 2 0 1 out36.length), (9, C.v (vI .i64 at37))], [(2, (cs (eS eT) out36))], [(0, [C.own (vT a32), C.own (vT a33)]), (1, [C.own (vT b34), C.own (vT b35)])]⟩
def J2_0 (same31 : Bool) (a32 : ByteArray) (a33 : ByteArray) (b34 : ByteArray) (b35 : ByteArray) (o : (List (List ByteArray))) : TL := ⟨108, [C.dead, C.dead, C.dead], [(7, C.sr 0 0 1 o.length)], [(0, (cs (eS eT) o))], []⟩
def Q2 (same31 : Bool) (a32 : ByteArray) (a33 : ByteArray) (b34 : ByteArray) (b35 : ByteArray) (r : (List (List ByteArray))) (e : Exit) (st : St) : Prop := (fun o => e = (.exit 2) ∧ Le st (J2_0 same31 a32 a33 b34 b35 o).sl.st) r
def p2 (fuel : Nat) (same31 : Bool) (a32 : ByteArray) (a33 : ByteArray) (b34 : ByteArray) (b35 : ByteArray) : Nat → (List (List ByteArray)) → Int → Option (List (List ByteArray))
  | 0, _, _ => none
  | n + 1, out36, at37 =>
    cond (decide (at37 < (a32.size : Int)))
    ((p3 fuel same31 a32 a33 b34 b35 out36 at37).bind fun r50 =>
      cond (r50)
      ((toN at37).bind fun n53 =>
        (chk (n53 ≤ a32.size)).bind fun _ =>
        (chk ((a32.extract 0 n53).size + b35.size ≤ 9223372036854775807)).bind fun _ =>
        (toN (w64 (at37 + (b34.size : Int)))).bind fun n57 =>
        (chk (n57 ≤ a32.size)).bind fun _ =>
        (chk (((a32.extract 0 n53) ++ b35).size + (a32.extract n57 a32.size).size ≤ 9223372036854775807)).bind fun _ =>
        (chk ((out36.length + 1) * 24 ≤ 140737488355328)).bind fun _ =>
        p2 fuel same31 a32 a33 b34 b35 n (out36 ++ ([([a33, ((a32.extract 0 n53) ++ b35) ++ (a32.extract n57 a32.size)] : List ByteArray)] : List (List ByteArray))) (w64 (at37 + 1)))
      (p2 fuel same31 a32 a33 b34 b35 n out36 (w64 (at37 + 1))))
    (some out36)
theorem p2_c (fuel : Nat) (same31 : Bool) (a32 : ByteArray) (a33 : ByteArray) (b34 : ByteArray) (b35 : ByteArray) (n : Nat) (out36 : List (List ByteArray)) (at37 : Int) (r : (List (List ByteArray))) (h : p2 fuel same31 a32 a33 b34 b35 n out36 at37 = some r) : TW Try.prog (.loop L2) (I2 same31 a32 a33 b34 b35 out36 at37).sl.st (Q2 same31 a32 a33 b34 b35 r) := by
  refine loop_run (σ := (List (List ByteArray)) × Int) (fun x => I2 same31 a32 a33 b34 b35 x.1 x.2) (fun n x => p2 fuel same31 a32 a33 b34 b35 n x.1 x.2) (Q2 same31 a32 a33 b34 b35) ?_ (fun _ => rfl) (x := (out36, at37)) h
  clear h
  rintro n ⟨out36, at37⟩ r h
  replace h : p2 fuel same31 a32 a33 b34 b35 (n + 1) out36 at37 = some r := h
  rw [p2] at h
  rcases cond_cases h with ⟨h38, h⟩ | ⟨h38, h⟩
  · 
    obtain ⟨r50, h51, h⟩ := bind_cases h
    refine runTo_S (n := 10) (c := (.code L2)) (K := []) (s := (I2 same31 a32 a33 b34 b35 out36 at37).sl) (b := (.code B3)) (K1 := K3) (t := I3 same31 a32 a33 b34 b35 out36 at37) (l := [(0, 0), (1, 1), (2, 2)])
      (hs := [hA, .h .sa, hA, .g (.env 63 (C.v (vB true)))])
      (ps := [C.v (vB (decide (at37 < (a32.size : Int)))) = C.v (vB true), (same31 : Bool) = same31, 0 = 0, 0 = 0, 0 = 0, out36.length = out36.length, (at37 : Int) = at37, (own (cs (eS eT) out36)) = (cs (eS eT) out36).map C.own, Value.string a32 = Value.string a32, Value.string a33 = Value.string a33, Value.string b34 = Value.string b34, Value.string b35 = Value.string b35])
      (by kernel_rfl) ⟨vbB h38, rfl, rfl, rfl, rfl, rfl, rfl, rfl, rfl, rfl, rfl, rfl, trivial⟩ (cut_code ?_)
    refine TW.mono_le (p3_c fuel same31 a32 a33 b34 b35 out36 at37 _ h51) ?_
    rintro e st hq
    obtain ⟨rfl, hl⟩ := hq
    refine ⟨_, hl, ?_⟩
    rcases cond_cases h with ⟨h52, h⟩ | ⟨h52, h⟩
    · 
      obtain ⟨n53, h54, h⟩ := bind_cases h
      obtain ⟨_, h55, h⟩ := bind_cases h
      obtain ⟨_, h56, h⟩ := bind_cases h
      obtain ⟨n57, h58, h⟩ := bind_cases h
      obtain ⟨_, h59, h⟩ := bind_cases h
      obtain ⟨_, h60, h⟩ := bind_cases h
      obtain ⟨_, h61, h⟩ := bind_cases h
      exact runAt_S (Q := Round _ (n + 1) _) (n := 100000) (c := (.out .normal)) (K := K3) (s := (J3_0 same31 a32 a33 b34 b35 out36 at37 r50).sl) (e := .normal) (t := I2 same31 a32 a33 b34 b35 (out36 ++ ([([a33, ((a32.extract 0 n53) ++ b35) ++ (a32.extract n57 a32.size)] : List ByteArray)] : List (List ByteArray))) (w64 (at37 + 1))) (l := [(0, 0), (1, 1), (2, 5)])
        (hs := [.g (.env 84 (C.v (vB true))), .any [[], [], [], [], [], [], [], [], [], [], [], [], [], [], [], [], [], [], [], [3], [4], [2, 3, 5], []], hA, hA, .h (.ss 0 n53), hA, .h .sa, hA, hA, .h .sa, hA, .h (.ss n57 a32.size), .h .sa, .h (.new 3), .h (.new 4), .h (.apc 5 [(3, (cs eT ([a33, ((a32.extract 0 n53) ++ b35) ++ (a32.extract n57 a32.size)] : List ByteArray)), (cs eT ([a33, ((a32.extract 0 n53) ++ b35) ++ (a32.extract n57 a32.size)] : List ByteArray)))] 9 (own (cs (eS eT) (out36 ++ ([([a33, ((a32.extract 0 n53) ++ b35) ++ (a32.extract n57 a32.size)] : List ByteArray)] : List (List ByteArray)))))), hA])
        (ps := [C.v (vB r50) = C.v (vB true), (0 : Int) = ((0 : Nat) : Int), (at37 : Int) = ((n53 : Nat) : Int), 0 ≤ n53, n53 ≤ a32.size, (a32.extract 0 n53).size + b35.size ≤ 9223372036854775807, (w64 (at37 + (b34.size : Int)) : Int) = ((n57 : Nat) : Int), (a32.size : Int) = ((a32.size : Nat) : Int), n57 ≤ a32.size, a32.size ≤ a32.size, ((a32.extract 0 n53) ++ b35).size + (a32.extract n57 a32.size).size ≤ 9223372036854775807, (own (cs eT ([a33, ((a32.extract 0 n53) ++ b35) ++ (a32.extract n57 a32.size)] : List ByteArray))) = (cs eT ([a33, ((a32.extract 0 n53) ++ b35) ++ (a32.extract n57 a32.size)] : List ByteArray)).map C.own, 0 + 2 * 1 ≤ (cs eT ([a33, ((a32.extract 0 n53) ++ b35) ++ (a32.extract n57 a32.size)] : List ByteArray)).length, ((cs eT ([a33, ((a32.extract 0 n53) ++ b35) ++ (a32.extract n57 a32.size)] : List ByteArray)).drop (0)).take (2 * 1) = (cs eT ([a33, ((a32.extract 0 n53) ++ b35) ++ (a32.extract n57 a32.size)] : List ByteArray)), 0 + out36.length * 1 ≤ (own (cs (eS eT) out36)).length, (out36.length + 1) * 24 ≤ 140737488355328, ((own (cs (eS eT) out36)).drop 0).take (out36.length * 1) ++ (([(.sl 1 2 (cs eT ([a33, ((a32.extract 0 n53) ++ b35) ++ (a32.extract n57 a32.size)] : List ByteArray)))] : List V).map C.own) = (own (cs (eS eT) (out36 ++ ([([a33, ((a32.extract 0 n53) ++ b35) ++ (a32.extract n57 a32.size)] : List ByteArray)] : List (List ByteArray))))), (same31 : Bool) = same31, 0 = 0, 0 = 0, 0 = 0, out36.length + 1 = (out36 ++ ([([a33, ((a32.extract 0 n53) ++ b35) ++ (a32.extract n57 a32.size)] : List ByteArray)] : List (List ByteArray))).length, (w64 (at37 + 1) : Int) = (w64 (at37 + 1)), (own (cs (eS eT) (out36 ++ ([([a33, ((a32.extract 0 n53) ++ b35) ++ (a32.extract n57 a32.size)] : List ByteArray)] : List (List ByteArray))))) = (cs (eS eT) (out36 ++ ([([a33, ((a32.extract 0 n53) ++ b35) ++ (a32.extract n57 a32.size)] : List ByteArray)] : List (List ByteArray)))).map C.own, Value.string a32 = Value.string a32, Value.string a33 = Value.string a33, Value.string b34 = Value.string b34, Value.string b35 = Value.string b35])
        (by kernel_rfl) ⟨vbB h52, rfl, (toN_S h54), (Nat.zero_le _), (chk_S h55), (chk_S h56), (toN_S h58), rfl, (chk_S h59), (Nat.le_refl _), (chk_S h60), rfl, len_all (e := eT) (rfl), take_cs (e := eT) (rfl), own_len (e := (eS eT)) (rfl), (chk_S h61), own_app (e := (eS eT)) (rfl) rfl, rfl, rfl, rfl, rfl, app_ln (rfl) (rfl), rfl, rfl, rfl, rfl, rfl, rfl, trivial⟩ (fun st hl => ⟨n, _, Nat.lt_succ_self n, hl, (out36 ++ ([([a33, ((a32.extract 0 n53) ++ b35) ++ (a32.extract n57 a32.size)] : List ByteArray)] : List (List ByteArray)), w64 (at37 + 1)), rfl, rfl, h⟩)
    · 
      exact runAt_S (Q := Round _ (n + 1) _) (n := 100000) (c := (.out .normal)) (K := K3) (s := (J3_0 same31 a32 a33 b34 b35 out36 at37 r50).sl) (e := .normal) (t := I2 same31 a32 a33 b34 b35 out36 (w64 (at37 + 1))) (l := [(0, 0), (1, 1), (2, 2)])
        (hs := [.g (.env 84 (C.v (vB false))), hA])
        (ps := [C.v (vB r50) = C.v (vB false), (same31 : Bool) = same31, 0 = 0, 0 = 0, 0 = 0, out36.length = out36.length, (w64 (at37 + 1) : Int) = (w64 (at37 + 1)), (own (cs (eS eT) out36)) = (cs (eS eT) out36).map C.own, Value.string a32 = Value.string a32, Value.string a33 = Value.string a33, Value.string b34 = Value.string b34, Value.string b35 = Value.string b35])
        (by kernel_rfl) ⟨vbB h52, rfl, rfl, rfl, rfl, rfl, rfl, rfl, rfl, rfl, rfl, rfl, trivial⟩ (fun st hl => ⟨n, _, Nat.lt_succ_self n, hl, (out36, w64 (at37 + 1)), rfl, rfl, h⟩)
  · 
    obtain rfl := Option.some.inj h
    exact runAt_S (Q := Round _ (n + 1) _) (n := 100000) (c := (.code L2)) (K := []) (s := (I2 same31 a32 a33 b34 b35 out36 at37).sl) (e := (.exit 2)) (t := J2_0 same31 a32 a33 b34 b35 out36) (l := [(0, 2)])
      (hs := [hA, .h .sa, hA, .g (.env 63 (C.v (vB false)))])
      (ps := [C.v (vB (decide (at37 < (a32.size : Int)))) = C.v (vB false), 0 = 0, out36.length = out36.length, (own (cs (eS eT) out36)) = (cs (eS eT) out36).map C.own])
      (by kernel_rfl) ⟨vbB h38, rfl, rfl, rfl, trivial⟩ (fun st hl => ⟨rfl, hl⟩)
def fn (fuel : Nat) (a0 : T174) (b1 : T174) (same2 : Bool) : Option (List (List ByteArray)) :=
  (p0 fuel same2 a0.f0 a0.f1 b1.f0 b1.f1 fuel ([] : List (List ByteArray)) (1 : Int)).bind fun r29 =>
  (p2 fuel same2 a0.f0 a0.f1 b1.f0 b1.f1 fuel r29 (0 : Int)).bind fun r62 =>
  some r62
theorem ent : enterable Try.prog 144 = true := by kernel_rfl
theorem fn_c (fuel : Nat) (a0 : T174) (b1 : T174) (same2 : Bool) (r : (List (List ByteArray))) (h : fn fuel a0 b1 same2 = some r) : CallOK Try.prog 144 [.ro (.ag (eT174.f a0)), .ro (.ag (eT174.f b1)), .ro (vB same2)] [] (vS (eS eT) r) := by
  refine contract_run Try.func144 (b := bod Try.f144) rfl ent ?_
  unfold fn at h
  obtain ⟨r29, h30, h⟩ := bind_cases h
  refine runTo_S (n := 100000) (c := (.code (bod Try.f144))) (K := []) (b := (.code (.loop L0))) (K1 := K0) (t := I0 same2 a0.f0 a0.f1 b1.f0 b1.f1 ([] : List (List ByteArray)) (1 : Int)) (l := [(0, 0), (1, 1), (2, 2)])
    (hs := [.h (.new 0), .h (.new 1), .skip, .skip, .skip, .g (.nilE 7 2 1)])
    (ps := [(same2 : Bool) = same2, 0 = 0, 0 = 0, 0 = 0, 0 = ([] : List (List ByteArray)).length, (1 : Int) = (1 : Int), (own (cs (eS eT) ([] : List (List ByteArray)))) = (cs (eS eT) ([] : List (List ByteArray))).map C.own, Value.string a0.f0 = Value.string a0.f0, Value.string a0.f1 = Value.string a0.f1, Value.string b1.f0 = Value.string b1.f0, Value.string b1.f1 = Value.string b1.f1])
    (by kernel_rfl) ⟨rfl, rfl, rfl, rfl, rfl, rfl, rfl, rfl, rfl, rfl, rfl, trivial⟩ (cut_code ?_)
  refine TW.mono_le (p0_c fuel same2 a0.f0 a0.f1 b1.f0 b1.f1 fuel ([] : List (List ByteArray)) (1 : Int) _ h30) ?_
  rintro e st hq
  obtain ⟨rfl, hl⟩ := hq
  refine ⟨_, hl, ?_⟩
  obtain ⟨r62, h63, h⟩ := bind_cases h
  refine runTo_S (n := 100000) (c := (.out (.exit 0))) (K := K0) (s := (J0_0 same2 a0.f0 a0.f1 b1.f0 b1.f1 r29).sl) (b := (.code (.loop L2))) (K1 := K2) (t := I2 same2 a0.f0 a0.f1 b1.f0 b1.f1 r29 (0 : Int)) (l := [(0, 0), (1, 1), (2, 2)])
    (hs := [])
    (ps := [(same2 : Bool) = same2, 0 = 0, 0 = 0, 0 = 0, r29.length = r29.length, (0 : Int) = (0 : Int), (own (cs (eS eT) r29)) = (cs (eS eT) r29).map C.own, Value.string a0.f0 = Value.string a0.f0, Value.string a0.f1 = Value.string a0.f1, Value.string b1.f0 = Value.string b1.f0, Value.string b1.f1 = Value.string b1.f1])
    (by kernel_rfl) ⟨rfl, rfl, rfl, rfl, rfl, rfl, rfl, rfl, rfl, rfl, rfl, trivial⟩ (cut_code ?_)
  refine TW.mono_le (p2_c fuel same2 a0.f0 a0.f1 b1.f0 b1.f1 fuel r29 (0 : Int) _ h63) ?_
  rintro e st hq
  obtain ⟨rfl, hl⟩ := hq
  refine ⟨_, hl, ?_⟩
  obtain rfl := Option.some.inj h
  exact runRet_S (r := ⟨Try.f144.results.toList, _, _, _, [(0, (cs (eS eT) r62), (cs (eS eT) r62))], 9⟩) (n := 100000) (c := (.out (.exit 2))) (K := K2) (s := (J2_0 same2 a0.f0 a0.f1 b1.f0 b1.f1 r62).sl)
    (hs := [])
    (ps := [(own (cs (eS eT) r62)) = (cs (eS eT) r62).map C.own, 0 + r62.length * 1 ≤ (cs (eS eT) r62).length, ((cs (eS eT) r62).drop (0)).take (r62.length * 1) = (cs (eS eT) r62), ((.sl 1 r62.length (cs (eS eT) r62)) : V) = (vS (eS eT) r62)])
    (by kernel_rfl) ⟨rfl, len_all (e := (eS eT)) (rfl), take_cs (e := (eS eT)) (rfl), rfl, trivial⟩ rfl (fun _ _ h => h)
end F144
namespace F82
/-! spec.l15Critical -/
noncomputable def K0 := (subC [1, 1, 0, 1, 0] (bod Try.f82) []).2
noncomputable def L0 := (subC [1, 1, 0, 1, 0, 0] (bod Try.f82) []).1
noncomputable def K1 := (subC [1, 1, 0, 0, 1, 1, 0] L0 []).2
noncomputable def L1 := (subC [1, 1, 0, 0, 1, 1, 0, 0] L0 []).1
def I1 (l9 : List T174) (out10 : List (List ByteArray)) (i11 : Int) (a12 : ByteArray) (a13 : ByteArray) (v14 : List T174) (v15 : Int) (v16 : Int) (v17 : List T174) (v18 : Int) (v19 : Int) : TL := ⟨33, [C.dead], [(0, C.v (vS eT174 l9)), (3, C.sr 0 0 1 out10.length), (4, C.v (vI .i64 i11)), (5, C.pr 1 0), (8, C.v (vS eT174 v14)), (9, C.v (vI .i64 v15)), (10, C.v (vI .i64 v16)), (15, C.v (vS eT174 v17)), (16, C.v (vI .i64 v18)), (17, C.v (vI .i64 v19))], [(0, (cs (eS eT) out10))], [(1, [C.own (vT a12), C.own (vT a13)])]⟩
def J1_0 (l9 : List T174) (i11 : Int) (a12 : ByteArray) (a13 : ByteArray) (v14 : List T174) (v15 : Int) (v16 : Int) (v17 : List T174) (v18 : Int) (o : (List (List ByteArray))) : TL := ⟨33, [C.dead], [(0, C.v (vS eT174 l9)), (3, C.sr 0 0 1 o.length), (8, C.v (vS eT174 v14)), (9, C.v (vI .i64 v15)), (10, C.v (vI .i64 v16))], [(0, (cs (eS eT) o))], []⟩
def Q1 (l9 : List T174) (i11 : Int) (a12 : ByteArray) (a13 : ByteArray) (v14 : List T174) (v15 : Int) (v16 : Int) (v17 : List T174) (v18 : Int) (r : (List (List ByteArray))) (e : Exit) (st : St) : Prop := (fun o => e = (.exit 2) ∧ Le st (J1_0 l9 i11 a12 a13 v14 v15 v16 v17 v18 o).sl.st) r
def p1 (fuel : Nat) (l9 : List T174) (i11 : Int) (a12 : ByteArray) (a13 : ByteArray) (v14 : List T174) (v15 : Int) (v16 : Int) (v17 : List T174) (v18 : Int) : Nat → (List (List ByteArray)) → Int → Option (List (List ByteArray))
  | 0, _, _ => none
  | n + 1, out10, v19 =>
    cond (decide (v19 < v18))
    ((idx v19 v17.length).bind fun j21 =>
      (F144.fn fuel (⟨a12, a13⟩ : T174) (v17.getD j21 (default : T174)) (decide (i11 = v19))).bind fun r23 =>
      (chk ((out10.length + r23.length) * 24 ≤ 140737488355328)).bind fun _ =>
      p1 fuel l9 i11 a12 a13 v14 v15 v16 v17 v18 n (out10 ++ r23) (w64 (v19 + 1)))
    (some out10)
theorem p1_c (fuel : Nat) (l9 : List T174) (i11 : Int) (a12 : ByteArray) (a13 : ByteArray) (v14 : List T174) (v15 : Int) (v16 : Int) (v17 : List T174) (v18 : Int) (n : Nat) (out10 : List (List ByteArray)) (v19 : Int) (r : (List (List ByteArray))) (h : p1 fuel l9 i11 a12 a13 v14 v15 v16 v17 v18 n out10 v19 = some r) : TW Try.prog (.loop L1) (I1 l9 out10 i11 a12 a13 v14 v15 v16 v17 v18 v19).sl.st (Q1 l9 i11 a12 a13 v14 v15 v16 v17 v18 r) := by
  refine loop_run (σ := (List (List ByteArray)) × Int) (fun x => I1 l9 x.1 i11 a12 a13 v14 v15 v16 v17 v18 x.2) (fun n x => p1 fuel l9 i11 a12 a13 v14 v15 v16 v17 v18 n x.1 x.2) (Q1 l9 i11 a12 a13 v14 v15 v16 v17 v18) ?_ (fun _ => rfl) (x := (out10, v19)) h
  clear h
  rintro n ⟨out10, v19⟩ r h
  replace h : p1 fuel l9 i11 a12 a13 v14 v15 v16 v17 v18 (n + 1) out10 v19 = some r := h
  rw [p1] at h
  rcases cond_cases h with ⟨h20, h⟩ | ⟨h20, h⟩
  · 
    obtain ⟨j21, h22, h⟩ := bind_cases h
    obtain ⟨r23, h24, h⟩ := bind_cases h
    obtain ⟨_, h25, h⟩ := bind_cases h
    exact runAt_S (Q := Round _ (n + 1) _) (n := 100000) (c := (.code L1)) (K := []) (s := (I1 l9 out10 i11 a12 a13 v14 v15 v16 v17 v18 v19).sl) (e := .normal) (t := I1 l9 (out10 ++ r23) i11 a12 a13 v14 v15 v16 v17 v18 (w64 (v19 + 1))) (l := [(0, 4), (1, 1)])
      (hs := [hA, .g (.env 18 (C.v (vB true))), .h (.idv j21 (eT174.f (v17.getD j21 (default : T174)) ++ (cs eT174 (v17.drop (j21 + 1))))), hA, .h (.new 2), hA, hA, hA, hA, .call ⟨[.ro, .ro, .ro], 9, [], true, [], (vS (eS eT) r23), [], 3⟩, .h (.apm 4 (cs (eS eT) r23) (own (cs (eS eT) (out10 ++ r23)))), hA])
      (ps := [C.v (vB (decide (v19 < v18))) = C.v (vB true), v19 = (j21 : Int), j21 < v17.length, (cs eT174 v17).drop (j21 * 2) = (eT174.f (v17.getD j21 (default : T174)) ++ (cs eT174 (v17.drop (j21 + 1)))), cs eT174 v17 ≠ [], CallOK Try.prog 144 [.ro (.ag [(vT a12), (vT a13)]), .ro (.ag [(vT ((v17.getD j21 (default : T174)).f0)), (vT ((v17.getD j21 (default : T174)).f1))]), .ro (vB (decide (i11 = v19)))] [] (vS (eS eT) r23), (own (cs (eS eT) r23)) = (cs (eS eT) r23).map C.own, (cs (eS eT) r23).length = r23.length * 1, (cs (eS eT) r23).all oneV = true, 0 + out10.length * 1 ≤ (own (cs (eS eT) out10)).length, (out10.length + r23.length) * 24 ≤ 140737488355328, ((own (cs (eS eT) out10)).drop 0).take (out10.length * 1) ++ (cs (eS eT) r23).map C.own = (own (cs (eS eT) (out10 ++ r23))), ((vS eT174 l9) : V) = (vS eT174 l9), 0 = 0, out10.length + r23.length = (out10 ++ r23).length, (i11 : Int) = i11, 0 = 0, ((vS eT174 v14) : V) = (vS eT174 v14), (v15 : Int) = v15, (v16 : Int) = v16, ((vS eT174 v17) : V) = (vS eT174 v17), (v18 : Int) = v18, (w64 (v19 + 1) : Int) = (w64 (v19 + 1)), (own (cs (eS eT) (out10 ++ r23))) = (cs (eS eT) (out10 ++ r23)).map C.own, Value.string a12 = Value.string a12, Value.string a13 = Value.string a13])
      (by kernel_rfl) ⟨vbB h20, (idx_S h22).1, (idx_S h22).2, cs_from (e := eT174) (d := (default : T174)) (idx_S h22).2, cs_ne (e := eT174) (idx_S h22).2 (by decide), F144.fn_c fuel (⟨a12, a13⟩ : T174) (v17.getD j21 (default : T174)) (decide (i11 = v19)) _ h24, rfl, by rw [cs_length, show r23.length = r23.length from (rfl)]; rfl, all_oneV, own_len (e := (eS eT)) (rfl), (chk_S h25), own_app (e := (eS eT)) (rfl) rfl, rfl, rfl, app_ln (rfl) (rfl), rfl, rfl, rfl, rfl, rfl, rfl, rfl, rfl, rfl, rfl, rfl, trivial⟩ (fun st hl => ⟨n, _, Nat.lt_succ_self n, hl, (out10 ++ r23, w64 (v19 + 1)), rfl, rfl, h⟩)
  · 
    obtain rfl := Option.some.inj h
    exact runAt_S (Q := Round _ (n + 1) _) (n := 100000) (c := (.code L1)) (K := []) (s := (I1 l9 out10 i11 a12 a13 v14 v15 v16 v17 v18 v19).sl) (e := (.exit 2)) (t := J1_0 l9 i11 a12 a13 v14 v15 v16 v17 v18 out10) (l := [(0, 0)])
      (hs := [hA, .g (.env 18 (C.v (vB false)))])
      (ps := [C.v (vB (decide (v19 < v18))) = C.v (vB false), ((vS eT174 l9) : V) = (vS eT174 l9), 0 = 0, out10.length = out10.length, ((vS eT174 v14) : V) = (vS eT174 v14), (v15 : Int) = v15, (v16 : Int) = v16, (own (cs (eS eT) out10)) = (cs (eS eT) out10).map C.own])
      (by kernel_rfl) ⟨vbB h20, rfl, rfl, rfl, rfl, rfl, rfl, rfl, trivial⟩ (fun st hl => ⟨rfl, hl⟩)
def I0 (l1 : List T174) (out2 : List (List ByteArray)) (v3 : List T174) (v4 : Int) (v5 : Int) : TL := ⟨33, [C.dead], [(0, C.v (vS eT174 l1)), (3, C.sr 0 0 1 out2.length), (8, C.v (vS eT174 v3)), (9, C.v (vI .i64 v4)), (10, C.v (vI .i64 v5))], [(0, (cs (eS eT) out2))], []⟩
def J0_0 (l1 : List T174) (v3 : List T174) (v4 : Int) (o : (List (List ByteArray))) : TL := ⟨33, [C.dead], [(3, C.sr 0 0 1 o.length)], [(0, (cs (eS eT) o))], []⟩
def Q0 (l1 : List T174) (v3 : List T174) (v4 : Int) (r : (List (List ByteArray))) (e : Exit) (st : St) : Prop := (fun o => e = (.exit 0) ∧ Le st (J0_0 l1 v3 v4 o).sl.st) r
def p0 (fuel : Nat) (l1 : List T174) (v3 : List T174) (v4 : Int) : Nat → (List (List ByteArray)) → Int → Option (List (List ByteArray))
  | 0, _, _ => none
  | n + 1, out2, v5 =>
    cond (decide (v5 < v4))
    ((idx v5 v3.length).bind fun j7 =>
      (p1 fuel l1 v5 ((v3.getD j7 (default : T174)).f0) ((v3.getD j7 (default : T174)).f1) v3 v4 v5 l1 (l1.length : Int) fuel out2 (0 : Int)).bind fun r26 =>
      p0 fuel l1 v3 v4 n r26 (w64 (v5 + 1)))
    (some out2)
theorem p0_c (fuel : Nat) (l1 : List T174) (v3 : List T174) (v4 : Int) (n : Nat) (out2 : List (List ByteArray)) (v5 : Int) (r : (List (List ByteArray))) (h : p0 fuel l1 v3 v4 n out2 v5 = some r) : TW Try.prog (.loop L0) (I0 l1 out2 v3 v4 v5).sl.st (Q0 l1 v3 v4 r) := by
  refine loop_run (σ := (List (List ByteArray)) × Int) (fun x => I0 l1 x.1 v3 v4 x.2) (fun n x => p0 fuel l1 v3 v4 n x.1 x.2) (Q0 l1 v3 v4) ?_ (fun _ => rfl) (x := (out2, v5)) h
  clear h
  rintro n ⟨out2, v5⟩ r h
  replace h : p0 fuel l1 v3 v4 (n + 1) out2 v5 = some r := h
  rw [p0] at h
  rcases cond_cases h with ⟨h6, h⟩ | ⟨h6, h⟩
  · 
    obtain ⟨j7, h8, h⟩ := bind_cases h
    obtain ⟨r26, h27, h⟩ := bind_cases h
    refine runTo_S (n := 100000) (c := (.code L0)) (K := []) (s := (I0 l1 out2 v3 v4 v5).sl) (b := (.code (.loop L1))) (K1 := K1) (t := I1 l1 out2 v5 ((v3.getD j7 (default : T174)).f0) ((v3.getD j7 (default : T174)).f1) v3 v4 v5 l1 (l1.length : Int) (0 : Int)) (l := [(0, 0), (1, 1)])
      (hs := [hA, .g (.env 11 (C.v (vB true))), .h (.idv j7 (eT174.f (v3.getD j7 (default : T174)) ++ (cs eT174 (v3.drop (j7 + 1))))), hA, .h (.new 1), hA, hA])
      (ps := [C.v (vB (decide (v5 < v4))) = C.v (vB true), v5 = (j7 : Int), j7 < v3.length, (cs eT174 v3).drop (j7 * 2) = (eT174.f (v3.getD j7 (default : T174)) ++ (cs eT174 (v3.drop (j7 + 1)))), cs eT174 v3 ≠ [], ((vS eT174 l1) : V) = (vS eT174 l1), 0 = 0, out2.length = out2.length, (v5 : Int) = v5, 0 = 0, ((vS eT174 v3) : V) = (vS eT174 v3), (v4 : Int) = v4, (v5 : Int) = v5, ((vS eT174 l1) : V) = (vS eT174 l1), ((l1.length : Int) : Int) = (l1.length : Int), (0 : Int) = (0 : Int), (own (cs (eS eT) out2)) = (cs (eS eT) out2).map C.own, Value.string ((v3.getD j7 (default : T174)).f0) = Value.string ((v3.getD j7 (default : T174)).f0), Value.string ((v3.getD j7 (default : T174)).f1) = Value.string ((v3.getD j7 (default : T174)).f1)])
      (by kernel_rfl) ⟨vbB h6, (idx_S h8).1, (idx_S h8).2, cs_from (e := eT174) (d := (default : T174)) (idx_S h8).2, cs_ne (e := eT174) (idx_S h8).2 (by decide), rfl, rfl, rfl, rfl, rfl, rfl, rfl, rfl, rfl, rfl, rfl, rfl, rfl, rfl, trivial⟩ (cut_code ?_)
    refine TW.mono_le (p1_c fuel l1 v5 ((v3.getD j7 (default : T174)).f0) ((v3.getD j7 (default : T174)).f1) v3 v4 v5 l1 (l1.length : Int) fuel out2 (0 : Int) _ h27) ?_
    rintro e st hq
    obtain ⟨rfl, hl⟩ := hq
    refine ⟨_, hl, ?_⟩
    exact runAt_S (Q := Round _ (n + 1) _) (n := 100000) (c := (.out (.exit 2))) (K := K1) (s := (J1_0 l1 v5 ((v3.getD j7 (default : T174)).f0) ((v3.getD j7 (default : T174)).f1) v3 v4 v5 l1 (l1.length : Int) r26).sl) (e := .normal) (t := I0 l1 r26 v3 v4 (w64 (v5 + 1))) (l := [(0, 0)])
      (hs := [hA])
      (ps := [((vS eT174 l1) : V) = (vS eT174 l1), 0 = 0, r26.length = r26.length, ((vS eT174 v3) : V) = (vS eT174 v3), (v4 : Int) = v4, (w64 (v5 + 1) : Int) = (w64 (v5 + 1)), (own (cs (eS eT) r26)) = (cs (eS eT) r26).map C.own])
      (by kernel_rfl) ⟨rfl, rfl, rfl, rfl, rfl, rfl, rfl, trivial⟩ (fun st hl => ⟨n, _, Nat.lt_succ_self n, hl, (r26, w64 (v5 + 1)), rfl, rfl, h⟩)
  · 
    obtain rfl := Option.some.inj h
    exact runAt_S (Q := Round _ (n + 1) _) (n := 100000) (c := (.code L0)) (K := []) (s := (I0 l1 out2 v3 v4 v5).sl) (e := (.exit 0)) (t := J0_0 l1 v3 v4 out2) (l := [(0, 0)])
      (hs := [hA, .g (.env 11 (C.v (vB false)))])
      (ps := [C.v (vB (decide (v5 < v4))) = C.v (vB false), 0 = 0, out2.length = out2.length, (own (cs (eS eT) out2)) = (cs (eS eT) out2).map C.own])
      (by kernel_rfl) ⟨vbB h6, rfl, rfl, rfl, trivial⟩ (fun st hl => ⟨rfl, hl⟩)
def fn (fuel : Nat) (l0 : List T174) : Option (List (List ByteArray)) :=
  (p0 fuel l0 l0 (l0.length : Int) fuel ([] : List (List ByteArray)) (0 : Int)).bind fun r28 =>
  some r28
theorem ent : enterable Try.prog 82 = true := by kernel_rfl
theorem fn_c (fuel : Nat) (l0 : List T174) (r : (List (List ByteArray))) (h : fn fuel l0 = some r) : CallOK Try.prog 82 [.ro (vS eT174 l0)] [] (vS (eS eT) r) := by
  refine contract_run Try.func82 (b := bod Try.f82) rfl ent ?_
  unfold fn at h
  obtain ⟨r28, h29, h⟩ := bind_cases h
  refine runTo_S (n := 100000) (c := (.code (bod Try.f82))) (K := []) (b := (.code (.loop L0))) (K1 := K0) (t := I0 l0 ([] : List (List ByteArray)) l0 (l0.length : Int) (0 : Int)) (l := [(0, 0)])
    (hs := [hA, .skip, .g (.nilE 3 0 1)])
    (ps := [((vS eT174 l0) : V) = (vS eT174 l0), 0 = 0, 0 = ([] : List (List ByteArray)).length, ((vS eT174 l0) : V) = (vS eT174 l0), ((l0.length : Int) : Int) = (l0.length : Int), (0 : Int) = (0 : Int), (own (cs (eS eT) ([] : List (List ByteArray)))) = (cs (eS eT) ([] : List (List ByteArray))).map C.own])
    (by kernel_rfl) ⟨rfl, rfl, rfl, rfl, rfl, rfl, rfl, trivial⟩ (cut_code ?_)
  refine TW.mono_le (p0_c fuel l0 l0 (l0.length : Int) fuel ([] : List (List ByteArray)) (0 : Int) _ h29) ?_
  rintro e st hq
  obtain ⟨rfl, hl⟩ := hq
  refine ⟨_, hl, ?_⟩
  obtain rfl := Option.some.inj h
  exact runRet_S (r := ⟨Try.f82.results.toList, _, _, _, [(0, (cs (eS eT) r28), (cs (eS eT) r28))], 9⟩) (n := 100000) (c := (.out (.exit 0))) (K := K0) (s := (J0_0 l0 l0 (l0.length : Int) r28).sl)
    (hs := [])
    (ps := [(own (cs (eS eT) r28)) = (cs (eS eT) r28).map C.own, 0 + r28.length * 1 ≤ (cs (eS eT) r28).length, ((cs (eS eT) r28).drop (0)).take (r28.length * 1) = (cs (eS eT) r28), ((.sl 1 r28.length (cs (eS eT) r28)) : V) = (vS (eS eT) r28)])
    (by kernel_rfl) ⟨rfl, len_all (e := (eS eT)) (rfl), take_cs (e := (eS eT)) (rfl), rfl, trivial⟩ rfl (fun _ _ h => h)
end F82
namespace F20
/-! spec.IsConfluent -/
noncomputable def K0 := (subC [1, 1, 1, 0, 1, 0] (bod Try.f20) []).2
noncomputable def L0 := (subC [1, 1, 1, 0, 1, 0, 0] (bod Try.f20) []).1
noncomputable def K1 := (subC [1, 1, 0, 0, 1, 1, 1, 0, 0] L0 []).2
noncomputable def B1 := (subC [1, 1, 0, 0, 1, 1, 1, 0, 0] L0 []).1
def I1 (l22 : List T174) (all23 : Bool) (x24 : ByteArray) (one25 : Bool) (y26 : ByteArray) (two27 : Bool) (v28 : List (List ByteArray)) (v29 : Int) (v30 : Int) : TL := ⟨55, [C.dead], [(0, C.v (vS eT174 l22)), (4, C.v (vB all23)), (7, C.v (vT x24)), (9, C.v (vB one25)), (10, C.v (vT y26)), (12, C.v (vB two27)), (17, C.sr 0 0 1 v28.length), (18, C.v (vI .i64 v29)), (19, C.v (vI .i64 v30))], [(0, (cs (eS eT) v28))], []⟩
def J1_0 (l22 : List T174) (all23 : Bool) (x24 : ByteArray) (one25 : Bool) (y26 : ByteArray) (two27 : Bool) (v28 : List (List ByteArray)) (v29 : Int) (v30 : Int) (o : Bool) : TL := ⟨55, [C.dead], [(0, C.v (vS eT174 l22)), (4, C.v (vB all23)), (7, C.v (vT x24)), (10, C.v (vT y26)), (17, C.sr 0 0 1 v28.length), (18, C.v (vI .i64 v29)), (19, C.v (vI .i64 v30)), (46, C.v (vB o))], [(0, (cs (eS eT) v28))], []⟩
def Q1 (l22 : List T174) (all23 : Bool) (x24 : ByteArray) (one25 : Bool) (y26 : ByteArray) (two27 : Bool) (v28 : List (List ByteArray)) (v29 : Int) (v30 : Int) (r : Bool) (e : Exit) (st : St) : Prop := (fun o => e = .normal ∧ Le st (J1_0 l22 all23 x24 one25 y26 two27 v28 v29 v30 o).sl.st) r
def p1 (fuel : Nat) (l22 : List T174) (all23 : Bool) (x24 : ByteArray) (one25 : Bool) (y26 : ByteArray) (two27 : Bool) (v28 : List (List ByteArray)) (v29 : Int) (v30 : Int) : Option Bool :=
  cond (!one25)
  (some true)
  (some (!two27))
theorem p1_c (fuel : Nat) (l22 : List T174) (all23 : Bool) (x24 : ByteArray) (one25 : Bool) (y26 : ByteArray) (two27 : Bool) (v28 : List (List ByteArray)) (v29 : Int) (v30 : Int) (r : Bool) (h : p1 fuel l22 all23 x24 one25 y26 two27 v28 v29 v30 = some r) : TW Try.prog B1 (I1 l22 all23 x24 one25 y26 two27 v28 v29 v30).sl.st (Q1 l22 all23 x24 one25 y26 two27 v28 v29 v30 r) := by
  unfold p1 at h
  rcases cond_cases h with ⟨h31, h⟩ | ⟨h31, h⟩
  · 
    obtain rfl := Option.some.inj h
    exact runAt_S (Q := Q1 l22 all23 x24 one25 y26 two27 v28 v29 v30 _) (n := 100000) (c := (.code B1)) (K := []) (s := (I1 l22 all23 x24 one25 y26 two27 v28 v29 v30).sl) (e := .normal) (t := J1_0 l22 all23 x24 one25 y26 two27 v28 v29 v30 true) (l := [(0, 0)])
      (hs := [hA, .skip, .g (.env 43 (C.v (vB true)))])
      (ps := [C.v (vB (!one25)) = C.v (vB true), ((vS eT174 l22) : V) = (vS eT174 l22), (all23 : Bool) = all23, Value.string x24 = Value.string x24, Value.string y26 = Value.string y26, 0 = 0, v28.length = v28.length, (v29 : Int) = v29, (v30 : Int) = v30, (true : Bool) = true, (own (cs (eS eT) v28)) = (cs (eS eT) v28).map C.own])
      (by kernel_rfl) ⟨vbB h31, rfl, rfl, rfl, rfl, rfl, rfl, rfl, rfl, rfl, rfl, trivial⟩ (fun st hl => ⟨rfl, hl⟩)
  · 
    obtain rfl := Option.some.inj h
    exact runAt_S (Q := Q1 l22 all23 x24 one25 y26 two27 v28 v29 v30 _) (n := 100000) (c := (.code B1)) (K := []) (s := (I1 l22 all23 x24 one25 y26 two27 v28 v29 v30).sl) (e := .normal) (t := J1_0 l22 all23 x24 one25 y26 two27 v28 v29 v30 (!two27)) (l := [(0, 0)])
      (hs := [hA, .skip, .g (.env 43 (C.v (vB false))), hA])
      (ps := [C.v (vB (!one25)) = C.v (vB false), ((vS eT174 l22) : V) = (vS eT174 l22), (all23 : Bool) = all23, Value.string x24 = Value.string x24, Value.string y26 = Value.string y26, 0 = 0, v28.length = v28.length, (v29 : Int) = v29, (v30 : Int) = v30, (!two27 : Bool) = (!two27), (own (cs (eS eT) v28)) = (cs (eS eT) v28).map C.own])
      (by kernel_rfl) ⟨vbB h31, rfl, rfl, rfl, rfl, rfl, rfl, rfl, rfl, rfl, rfl, trivial⟩ (fun st hl => ⟨rfl, hl⟩)
def I0 (l6 : List T174) (all7 : Bool) (v8 : List (List ByteArray)) (v9 : Int) (v10 : Int) : TL := ⟨55, [C.dead], [(0, C.v (vS eT174 l6)), (4, C.v (vB all7)), (17, C.sr 0 0 1 v8.length), (18, C.v (vI .i64 v9)), (19, C.v (vI .i64 v10))], [(0, (cs (eS eT) v8))], []⟩
def J0_0 (l6 : List T174) (v8 : List (List ByteArray)) (v9 : Int) (o : Unit) : TL := ⟨55, [C.dead], [(2, C.v (vB false)), (3, C.v (vB false))], [], []⟩
def J0_1 (l6 : List T174) (v8 : List (List ByteArray)) (v9 : Int) (o : Bool) : TL := ⟨55, [C.dead], [(4, C.v (vB o))], [], []⟩
def Q0 (l6 : List T174) (v8 : List (List ByteArray)) (v9 : Int) (r : Unit ⊕ Bool) (e : Exit) (st : St) : Prop := (Sum.elim (fun o => e = .ret ∧ Le st (J0_0 l6 v8 v9 o).sl.st) (fun o => e = (.exit 0) ∧ Le st (J0_1 l6 v8 v9 o).sl.st)) r
def p0 (fuel : Nat) (l6 : List T174) (v8 : List (List ByteArray)) (v9 : Int) : Nat → Bool → Int → Option (Unit ⊕ Bool)
  | 0, _, _ => none
  | n + 1, all7, v10 =>
    cond (decide (v10 < v9))
    ((idx v10 v8.length).bind fun j12 =>
      (idx 0 ((v8.getD j12 ([] : List ByteArray)).length)).bind fun j14 =>
      (F79.fn fuel l6 ((v8.getD j12 ([] : List ByteArray)).getD j14 ByteArray.empty) false).bind fun r16 =>
      (idx 1 ((v8.getD j12 ([] : List ByteArray)).length)).bind fun j18 =>
      (F79.fn fuel l6 ((v8.getD j12 ([] : List ByteArray)).getD j18 ByteArray.empty) false).bind fun r20 =>
      (p1 fuel l6 all7 r16.1 r16.2.2 r20.1 r20.2.2 v8 v9 v10).bind fun r32 =>
      cond (r32)
      (some (.inl ()))
      (cond (all7)
        (p0 fuel l6 v8 v9 n (sEq r16.1 r20.1) (w64 (v10 + 1)))
        (p0 fuel l6 v8 v9 n false (w64 (v10 + 1)))))
    (some (.inr all7))
theorem p0_c (fuel : Nat) (l6 : List T174) (v8 : List (List ByteArray)) (v9 : Int) (n : Nat) (all7 : Bool) (v10 : Int) (r : Unit ⊕ Bool) (h : p0 fuel l6 v8 v9 n all7 v10 = some r) : TW Try.prog (.loop L0) (I0 l6 all7 v8 v9 v10).sl.st (Q0 l6 v8 v9 r) := by
  refine loop_run (σ := Bool × Int) (fun x => I0 l6 x.1 v8 v9 x.2) (fun n x => p0 fuel l6 v8 v9 n x.1 x.2) (Q0 l6 v8 v9) ?_ (fun _ => rfl) (x := (all7, v10)) h
  clear h
  rintro n ⟨all7, v10⟩ r h
  replace h : p0 fuel l6 v8 v9 (n + 1) all7 v10 = some r := h
  rw [p0] at h
  rcases cond_cases h with ⟨h11, h⟩ | ⟨h11, h⟩
  · 
    obtain ⟨j12, h13, h⟩ := bind_cases h
    obtain ⟨j14, h15, h⟩ := bind_cases h
    obtain ⟨r16, h17, h⟩ := bind_cases h
    obtain ⟨j18, h19, h⟩ := bind_cases h
    obtain ⟨r20, h21, h⟩ := bind_cases h
    obtain ⟨r32, h33, h⟩ := bind_cases h
    refine runTo_S (n := 20) (c := (.code L0)) (K := []) (s := (I0 l6 all7 v8 v9 v10).sl) (b := (.code B1)) (K1 := K1) (t := I1 l6 all7 r16.1 r16.2.2 r20.1 r20.2.2 v8 v9 v10) (l := [(0, 0)])
      (hs := [hA, .g (.env 20 (C.v (vB true))), .h (.idx j12 false), .h (.opn 1 (vS eT (v8.getD j12 ([] : List ByteArray))) ((own (cs (eS eT) v8)).set (0 + j12 * 1) (C.sr 1 0 1 (v8.getD j12 ([] : List ByteArray)).length))), .h (.idx j14 false), .h (.cell (C.v (vT ((v8.getD j12 ([] : List ByteArray)).getD j14 ByteArray.empty)))), .call ⟨[.ro, .ro, .ro], 9, [], true, [], (.tp [(vT r16.1), (vI .i64 r16.2.1), (vB r16.2.2)]), [], 2⟩, .h (.idx j18 false), .h (.cell (C.v (vT ((v8.getD j12 ([] : List ByteArray)).getD j18 ByteArray.empty)))), .call ⟨[.ro, .ro, .ro], 9, [], true, [], (.tp [(vT r20.1), (vI .i64 r20.2.1), (vB r20.2.2)]), [], 2⟩, .skip, .skip, .skip, .skip, .skip, .skip, .skip, .g (.foldD 0 (0 + j12 * 1) 9 [(1, (cs eT (v8.getD j12 ([] : List ByteArray))), (cs eT (v8.getD j12 ([] : List ByteArray))))] (C.sr 1 0 1 ((v8.getD j12 ([] : List ByteArray)).length)) (own (cs (eS eT) v8)))])
      (ps := [C.v (vB (decide (v10 < v9))) = C.v (vB true), v10 = (j12 : Int), j12 < v8.length, (own (cs (eS eT) v8))[0 + j12 * 1]? = some (C.own (vS eT (v8.getD j12 ([] : List ByteArray)))), (own (cs (eS eT) v8)).set (0 + j12 * 1) (C.sr 1 0 1 ((v8.getD j12 ([] : List ByteArray)).length)) = ((own (cs (eS eT) v8)).set (0 + j12 * 1) (C.sr 1 0 1 (v8.getD j12 ([] : List ByteArray)).length)), 0 = (j14 : Int), j14 < (v8.getD j12 ([] : List ByteArray)).length, ((own (cs eT (v8.getD j12 ([] : List ByteArray))))[0 + j14 * 1]?).bind readC = some (C.v (vT ((v8.getD j12 ([] : List ByteArray)).getD j14 ByteArray.empty))), CallOK Try.prog 79 [.ro (vS eT174 l6), .ro (vT ((v8.getD j12 ([] : List ByteArray)).getD j14 ByteArray.empty)), .ro (vB false)] [] (.tp [(vT r16.1), (vI .i64 r16.2.1), (vB r16.2.2)]), 1 = (j18 : Int), j18 < (v8.getD j12 ([] : List ByteArray)).length, ((own (cs eT (v8.getD j12 ([] : List ByteArray))))[0 + j18 * 1]?).bind readC = some (C.v (vT ((v8.getD j12 ([] : List ByteArray)).getD j18 ByteArray.empty))), CallOK Try.prog 79 [.ro (vS eT174 l6), .ro (vT ((v8.getD j12 ([] : List ByteArray)).getD j18 ByteArray.empty)), .ro (vB false)] [] (.tp [(vT r20.1), (vI .i64 r20.2.1), (vB r20.2.2)]), ((own (cs (eS eT) v8)).set (0 + j12 * 1) (C.sr 1 0 1 (v8.getD j12 ([] : List ByteArray)).length))[(0 + j12 * 1)]? = some (C.sr 1 0 1 ((v8.getD j12 ([] : List ByteArray)).length)), ((own (cs (eS eT) v8)).set (0 + j12 * 1) (C.sr 1 0 1 (v8.getD j12 ([] : List ByteArray)).length)).set (0 + j12 * 1) (C.own (V.sl 1 ((v8.getD j12 ([] : List ByteArray)).length) (cs eT (v8.getD j12 ([] : List ByteArray))))) = (own (cs (eS eT) v8)), (own (cs eT (v8.getD j12 ([] : List ByteArray)))) = (cs eT (v8.getD j12 ([] : List ByteArray))).map C.own, 0 + (v8.getD j12 ([] : List ByteArray)).length * 1 ≤ (cs eT (v8.getD j12 ([] : List ByteArray))).length, ((cs eT (v8.getD j12 ([] : List ByteArray))).drop 0).take ((v8.getD j12 ([] : List ByteArray)).length * 1) = (cs eT (v8.getD j12 ([] : List ByteArray))), ((vS eT174 l6) : V) = (vS eT174 l6), (all7 : Bool) = all7, Value.string r16.1 = Value.string r16.1, (r16.2.2 : Bool) = r16.2.2, Value.string r20.1 = Value.string r20.1, (r20.2.2 : Bool) = r20.2.2, 0 = 0, v8.length = v8.length, (v9 : Int) = v9, (v10 : Int) = v10, (own (cs (eS eT) v8)) = (cs (eS eT) v8).map C.own])
      (by kernel_rfl) ⟨vbB h11, (idx_S h13).1, (idx_S h13).2, own_get (e := (eS eT)) (k := 0) (d := ([] : List ByteArray)) (idx_S h13).2 (by decide) rfl, rfl, (idx_S h15).1, (idx_S h15).2, readC_at (e := eT) (k := 0) (d := ByteArray.empty) (idx_S h15).2 (by decide) rfl, F79.fn_c fuel l6 ((v8.getD j12 ([] : List ByteArray)).getD j14 ByteArray.empty) false _ h17, (idx_S h19).1, (idx_S h19).2, readC_at (e := eT) (k := 0) (d := ByteArray.empty) (idx_S h19).2 (by decide) rfl, F79.fn_c fuel l6 ((v8.getD j12 ([] : List ByteArray)).getD j18 ByteArray.empty) false _ h21, set_get (own_room1 (e := (eS eT)) (k := 0) (idx_S h13).2 (by decide)), (List.set_set ..).trans (set_same (own_get (e := (eS eT)) (k := 0) (d := ([] : List ByteArray)) (idx_S h13).2 (by decide) rfl)), rfl, len_all (e := eT) (rfl), take_cs (e := eT) (rfl), rfl, rfl, rfl, rfl, rfl, rfl, rfl, rfl, rfl, rfl, rfl, trivial⟩ (cut_code ?_)
    refine TW.mono_le (p1_c fuel l6 all7 r16.1 r16.2.2 r20.1 r20.2.2 v8 v9 v10 _ h33) ?_
    rintro e st hq
    obtain ⟨rfl, hl⟩ := hq
    refine ⟨_, hl, ?_⟩
    rcases cond_cases h with ⟨h34, h⟩ | ⟨h34, h⟩
    · 
      obtain rfl := Option.some.inj h
      exact runAt_S (Q := Round _ (n + 1) _) (n := 100000) (c := (.out .normal)) (K := K1) (s := (J1_0 l6 all7 r16.1 r16.2.2 r20.1 r20.2.2 v8 v9 v10 r32).sl) (e := .ret) (t := J0_0 l6 v8 v9 ()) (l := [])
        (hs := [.g (.env 46 (C.v (vB true)))])
        (ps := [C.v (vB r32) = C.v (vB true), (false : Bool) = false, (false : Bool) = false])
        (by kernel_rfl) ⟨vbB h34, rfl, rfl, trivial⟩ (fun st hl => ⟨rfl, hl⟩)
    · 
      rcases cond_cases h with ⟨h35, h⟩ | ⟨h35, h⟩
      · 
        exact runAt_S (Q := Round _ (n + 1) _) (n := 100000) (c := (.out .normal)) (K := K1) (s := (J1_0 l6 all7 r16.1 r16.2.2 r20.1 r20.2.2 v8 v9 v10 r32).sl) (e := .normal) (t := I0 l6 (sEq r16.1 r20.1) v8 v9 (w64 (v10 + 1))) (l := [(0, 0)])
          (hs := [.g (.env 46 (C.v (vB false))), .skip, .skip, .skip, .g (.env 48 (C.v (vB true))), hA, hA])
          (ps := [C.v (vB r32) = C.v (vB false), C.v (vB all7) = C.v (vB true), ((vS eT174 l6) : V) = (vS eT174 l6), (sEq r16.1 r20.1 : Bool) = (sEq r16.1 r20.1), 0 = 0, v8.length = v8.length, (v9 : Int) = v9, (w64 (v10 + 1) : Int) = (w64 (v10 + 1)), (own (cs (eS eT) v8)) = (cs (eS eT) v8).map C.own])
          (by kernel_rfl) ⟨vbB h34, vbB h35, rfl, rfl, rfl, rfl, rfl, rfl, rfl, trivial⟩ (fun st hl => ⟨n, _, Nat.lt_succ_self n, hl, (sEq r16.1 r20.1, w64 (v10 + 1)), rfl, rfl, h⟩)
      · 
        exact runAt_S (Q := Round _ (n + 1) _) (n := 100000) (c := (.out .normal)) (K := K1) (s := (J1_0 l6 all7 r16.1 r16.2.2 r20.1 r20.2.2 v8 v9 v10 r32).sl) (e := .normal) (t := I0 l6 false v8 v9 (w64 (v10 + 1))) (l := [(0, 0)])
          (hs := [.g (.env 46 (C.v (vB false))), .skip, .skip, .skip, .g (.env 48 (C.v (vB false))), hA])
          (ps := [C.v (vB r32) = C.v (vB false), C.v (vB all7) = C.v (vB false), ((vS eT174 l6) : V) = (vS eT174 l6), (false : Bool) = false, 0 = 0, v8.length = v8.length, (v9 : Int) = v9, (w64 (v10 + 1) : Int) = (w64 (v10 + 1)), (own (cs (eS eT) v8)) = (cs (eS eT) v8).map C.own])
          (by kernel_rfl) ⟨vbB h34, vbB h35, rfl, rfl, rfl, rfl, rfl, rfl, rfl, trivial⟩ (fun st hl => ⟨n, _, Nat.lt_succ_self n, hl, (false, w64 (v10 + 1)), rfl, rfl, h⟩)
  · 
    obtain rfl := Option.some.inj h
    exact runAt_S (Q := Round _ (n + 1) _) (n := 100000) (c := (.code L0)) (K := []) (s := (I0 l6 all7 v8 v9 v10).sl) (e := (.exit 0)) (t := J0_1 l6 v8 v9 all7) (l := [])
      (hs := [hA, .g (.env 20 (C.v (vB false)))])
      (ps := [C.v (vB (decide (v10 < v9))) = C.v (vB false), (all7 : Bool) = all7])
      (by kernel_rfl) ⟨vbB h11, rfl, trivial⟩ (fun st hl => ⟨rfl, hl⟩)
def fn (fuel : Nat) (l0 : List T174) : Option (Bool × Bool) :=
  (F77.fn fuel l0).bind fun r1 =>
  cond (!r1)
  (some (false, false))
  ((F82.fn fuel l0).bind fun r4 =>
    (p0 fuel l0 r4 (r4.length : Int) fuel true (0 : Int)).bind fun r36 =>
    (Sum.elim (fun y38 => some (false, false))
    (fun y39 => some (y39, true))) r36)
theorem ent : enterable Try.prog 20 = true := by kernel_rfl
theorem fn_c (fuel : Nat) (l0 : List T174) (r : Bool × Bool) (h : fn fuel l0 = some r) : CallOK Try.prog 20 [.ro (vS eT174 l0)] [] (.tp [(vB r.1), (vB r.2)]) := by
  refine contract_run Try.func20 (b := bod Try.f20) rfl ent ?_
  unfold fn at h
  obtain ⟨r1, h2, h⟩ := bind_cases h
  rcases cond_cases h with ⟨h3, h⟩ | ⟨h3, h⟩
  · 
    obtain rfl := Option.some.inj h
    exact runRet_S (r := ⟨Try.f20.results.toList, _, _, _, [], 9⟩) (n := 100000) (c := (.code (bod Try.f20))) (K := [])
      (hs := [.call ⟨[.ro], 9, [], true, [], (vB r1), [], 0⟩, hA, .g (.env 15 (C.v (vB true)))])
      (ps := [CallOK Try.prog 77 [.ro (vS eT174 l0)] [] (vB r1), C.v (vB (!r1)) = C.v (vB true), (V.tp [(vB false), (vB false)]) = V.tp [(vB false), (vB false)]])
      (by kernel_rfl) ⟨F77.fn_c fuel l0 _ h2, vbB h3, rfl, trivial⟩ rfl (fun _ _ h => h)
  · 
    obtain ⟨r4, h5, h⟩ := bind_cases h
    obtain ⟨r36, h37, h⟩ := bind_cases h
    refine runTo_S (n := 100000) (c := (.code (bod Try.f20))) (K := []) (b := (.code (.loop L0))) (K1 := K0) (t := I0 l0 true r4 (r4.length : Int) (0 : Int)) (l := [(0, 0)])
      (hs := [.call ⟨[.ro], 9, [], true, [], (vB r1), [], 0⟩, hA, .g (.env 15 (C.v (vB false))), .call ⟨[.ro], 9, [], true, [], (vS (eS eT) r4), [], 0⟩, hA])
      (ps := [CallOK Try.prog 77 [.ro (vS eT174 l0)] [] (vB r1), C.v (vB (!r1)) = C.v (vB false), CallOK Try.prog 82 [.ro (vS eT174 l0)] [] (vS (eS eT) r4), ((vS eT174 l0) : V) = (vS eT174 l0), (true : Bool) = true, 0 = 0, r4.length = r4.length, ((r4.length : Int) : Int) = (r4.length : Int), (0 : Int) = (0 : Int), (own (cs (eS eT) r4)) = (cs (eS eT) r4).map C.own])
      (by kernel_rfl) ⟨F77.fn_c fuel l0 _ h2, vbB h3, F82.fn_c fuel l0 _ h5, rfl, rfl, rfl, rfl, rfl, rfl, rfl, trivial⟩ (cut_code ?_)
    refine TW.mono_le (p0_c fuel l0 r4 (r4.length : Int) fuel true (0 : Int) _ h37) ?_
    rcases r36 with y38 | y39
    · 
      replace h := sum_l h
      rintro e st hq
      obtain ⟨rfl, hl⟩ := hq
      refine ⟨_, hl, ?_⟩
      obtain rfl := Option.some.inj h
      exact runRet_S (r := ⟨Try.f20.results.toList, _, _, _, [], 9⟩) (n := 100000) (c := (.out .ret)) (K := K0) (s := (J0_0 l0 r4 (r4.length : Int) y38).sl)
        (hs := [])
        (ps := [(V.tp [(vB false), (vB false)]) = V.tp [(vB false), (vB false)]])
        (by kernel_rfl) ⟨rfl, trivial⟩ rfl (fun _ _ h => h)
    · 
      replace h := sum_r h
      rintro e st hq
      obtain ⟨rfl, hl⟩ := hq
      refine ⟨_, hl, ?_⟩
      obtain rfl := Option.some.inj h
      exact runRet_S (r := ⟨Try.f20.results.toList, _, _, _, [], 9⟩) (n := 100000) (c := (.out (.exit 0))) (K := K0) (s := (J0_1 l0 r4 (r4.length : Int) y39).sl)
        (hs := [])
        (ps := [(V.tp [(vB y39), (vB true)]) = V.tp [(vB y39), (vB true)]])
        (by kernel_rfl) ⟨rfl, trivial⟩ rfl (fun _ _ h => h)
end F20
namespace F21
/-! impl.OnceBy -/
def fn (fuel : Nat) (l0 : List T174) (s1 : ByteArray) : Option ((List ByteArray) × Bool) :=
  (F75.fn fuel l0 s1).bind fun r1 =>
  cond (!r1)
  (some (([] : List ByteArray), false))
  ((F83.fn fuel l0 s1).bind fun r4 =>
    some (r4, true))
theorem ent : enterable Try.prog 21 = true := by kernel_rfl
theorem fn_c (fuel : Nat) (l0 : List T174) (s1 : ByteArray) (r : (List ByteArray) × Bool) (h : fn fuel l0 s1 = some r) : CallOK Try.prog 21 [.ro (vS eT174 l0), .ro (vT s1)] [] (.tp [(vS eT r.1), (vB r.2)]) := by
  refine contract_run Try.func21 (b := bod Try.f21) rfl ent ?_
  unfold fn at h
  obtain ⟨r1, h2, h⟩ := bind_cases h
  rcases cond_cases h with ⟨h3, h⟩ | ⟨h3, h⟩
  · 
    obtain rfl := Option.some.inj h
    exact runRet_S (r := ⟨Try.f21.results.toList, _, _, _, [(0, (cs eT ([] : List ByteArray)), (cs eT ([] : List ByteArray)))], 9⟩) (n := 100000) (c := (.code (bod Try.f21))) (K := [])
      (hs := [.call ⟨[.ro, .ro], 9, [], true, [], (vB r1), [], 0⟩, hA, .g (.env 9 (C.v (vB true))), .skip, .skip, .skip, .g (.nilE 4 0 1)])
      (ps := [CallOK Try.prog 75 [.ro (vS eT174 l0), .ro (vT s1)] [] (vB r1), C.v (vB (!r1)) = C.v (vB true), (own (cs eT ([] : List ByteArray))) = (cs eT ([] : List ByteArray)).map C.own, 0 + 0 * 1 ≤ (cs eT ([] : List ByteArray)).length, ((cs eT ([] : List ByteArray)).drop (0)).take (0 * 1) = (cs eT ([] : List ByteArray)), (V.tp [(.sl 1 0 (cs eT ([] : List ByteArray))), (vB false)]) = V.tp [(vS eT ([] : List ByteArray)), (vB false)]])
      (by kernel_rfl) ⟨F75.fn_c fuel l0 s1 _ h2, vbB h3, rfl, len_all (e := eT) (rfl), take_cs (e := eT) (rfl), rfl, trivial⟩ rfl (fun _ _ h => h)
  · 
    obtain ⟨r4, h5, h⟩ := bind_cases h
    obtain rfl := Option.some.inj h
    exact runRet_S (r := ⟨Try.f21.results.toList, _, _, _, [(0, (cs eT r4), (cs eT r4))], 9⟩) (n := 100000) (c := (.code (bod Try.f21))) (K := [])
      (hs := [.call ⟨[.ro, .ro], 9, [], true, [], (vB r1), [], 0⟩, hA, .g (.env 9 (C.v (vB false))), .call ⟨[.ro, .ro], 9, [], true, [], (vS eT r4), [], 0⟩])
      (ps := [CallOK Try.prog 75 [.ro (vS eT174 l0), .ro (vT s1)] [] (vB r1), C.v (vB (!r1)) = C.v (vB false), CallOK Try.prog 83 [.ro (vS eT174 l0), .ro (vT s1)] [] (vS eT r4), (own (cs eT r4)) = (cs eT r4).map C.own, 0 + r4.length * 1 ≤ (cs eT r4).length, ((cs eT r4).drop (0)).take (r4.length * 1) = (cs eT r4), (V.tp [(.sl 1 r4.length (cs eT r4)), (vB true)]) = V.tp [(vS eT r4), (vB true)]])
      (by kernel_rfl) ⟨F75.fn_c fuel l0 s1 _ h2, vbB h3, F83.fn_c fuel l0 s1 _ h5, rfl, len_all (e := eT) (rfl), take_cs (e := eT) (rfl), rfl, trivial⟩ rfl (fun _ _ h => h)
end F21
namespace F23
/-! laws.numberOf -/
noncomputable def K0 := (subC [1, 1, 0, 1, 0] (bod Try.f23) []).2
noncomputable def L0 := (subC [1, 1, 0, 1, 0, 0] (bod Try.f23) []).1
def I0 (n1 : Int) (v2 : List Int) (v3 : Int) (v4 : Int) : TL := ⟨20, [C.dead], [(3, C.v (vI .i64 n1)), (6, C.v (vS (eI .u8) v2)), (7, C.v (vI .i64 v3)), (8, C.v (vI .i64 v4))], [], []⟩
def J0_0 (v2 : List Int) (v3 : Int) (o : Int) : TL := ⟨20, [C.dead], [(3, C.v (vI .i64 o))], [], []⟩
def Q0 (v2 : List Int) (v3 : Int) (r : Int) (e : Exit) (st : St) : Prop := (fun o => e = (.exit 0) ∧ Le st (J0_0 v2 v3 o).sl.st) r
def p0 (fuel : Nat) (v2 : List Int) (v3 : Int) : Nat → Int → Int → Option Int
  | 0, _, _ => none
  | n + 1, n1, v4 =>
    cond (decide (v4 < v3))
    ((idx v4 v2.length).bind fun j6 =>
      p0 fuel v2 v3 n (Int.tmod (w64 ((w64 ((31 : Int) * n1)) + (w64 ((v2.getD j6 (0 : Int)))))) 1000003) (w64 (v4 + 1)))
    (some n1)
theorem p0_c (fuel : Nat) (v2 : List Int) (v3 : Int) (n : Nat) (n1 : Int) (v4 : Int) (r : Int) (h : p0 fuel v2 v3 n n1 v4 = some r) : TW Try.prog (.loop L0) (I0 n1 v2 v3 v4).sl.st (Q0 v2 v3 r) := by
  refine loop_run (σ := Int × Int) (fun x => I0 x.1 v2 v3 x.2) (fun n x => p0 fuel v2 v3 n x.1 x.2) (Q0 v2 v3) ?_ (fun _ => rfl) (x := (n1, v4)) h
  clear h
  rintro n ⟨n1, v4⟩ r h
  replace h : p0 fuel v2 v3 (n + 1) n1 v4 = some r := h
  rw [p0] at h
  rcases cond_cases h with ⟨h5, h⟩ | ⟨h5, h⟩
  · 
    obtain ⟨j6, h7, h⟩ := bind_cases h
    exact runAt_S (Q := Round _ (n + 1) _) (n := 100000) (c := (.code L0)) (K := []) (s := (I0 n1 v2 v3 v4).sl) (e := .normal) (t := I0 (Int.tmod (w64 ((w64 ((31 : Int) * n1)) + (w64 ((v2.getD j6 (0 : Int)))))) 1000003) v2 v3 (w64 (v4 + 1))) (l := [])
      (hs := [hA, .g (.env 9 (C.v (vB true))), .h (.idv j6 ((eI .u8).f (v2.getD j6 (0 : Int)) ++ (cs (eI .u8) (v2.drop (j6 + 1))))), hA, hA, hA, hA, hA, hA])
      (ps := [C.v (vB (decide (v4 < v3))) = C.v (vB true), v4 = (j6 : Int), j6 < v2.length, (cs (eI .u8) v2).drop (j6 * 1) = ((eI .u8).f (v2.getD j6 (0 : Int)) ++ (cs (eI .u8) (v2.drop (j6 + 1)))), cs (eI .u8) v2 ≠ [], (Int.tmod (w64 ((w64 ((31 : Int) * n1)) + (w64 ((v2.getD j6 (0 : Int)))))) 1000003 : Int) = (Int.tmod (w64 ((w64 ((31 : Int) * n1)) + (w64 ((v2.getD j6 (0 : Int)))))) 1000003), ((vS (eI .u8) v2) : V) = (vS (eI .u8) v2), (v3 : Int) = v3, (w64 (v4 + 1) : Int) = (w64 (v4 + 1))])
      (by kernel_rfl) ⟨vbB h5, (idx_S h7).1, (idx_S h7).2, cs_from (e := (eI .u8)) (d := (0 : Int)) (idx_S h7).2, cs_ne (e := (eI .u8)) (idx_S h7).2 (by decide), rfl, rfl, rfl, rfl, trivial⟩ (fun st hl => ⟨n, _, Nat.lt_succ_self n, hl, (Int.tmod (w64 ((w64 ((31 : Int) * n1)) + (w64 ((v2.getD j6 (0 : Int)))))) 1000003, w64 (v4 + 1)), rfl, rfl, h⟩)
  · 
    obtain rfl := Option.some.inj h
    exact runAt_S (Q := Round _ (n + 1) _) (n := 100000) (c := (.code L0)) (K := []) (s := (I0 n1 v2 v3 v4).sl) (e := (.exit 0)) (t := J0_0 v2 v3 n1) (l := [])
      (hs := [hA, .g (.env 9 (C.v (vB false)))])
      (ps := [C.v (vB (decide (v4 < v3))) = C.v (vB false), (n1 : Int) = n1])
      (by kernel_rfl) ⟨vbB h5, rfl, trivial⟩ (fun st hl => ⟨rfl, hl⟩)
def fn (fuel : Nat) (b0 : List Int) : Option Int :=
  (p0 fuel b0 (b0.length : Int) fuel (0 : Int) (0 : Int)).bind fun r8 =>
  some r8
theorem ent : enterable Try.prog 23 = true := by kernel_rfl
theorem fn_c (fuel : Nat) (b0 : List Int) (r : Int) (h : fn fuel b0 = some r) : CallOK Try.prog 23 [.ro (vS (eI .u8) b0)] [] (vI .i64 r) := by
  refine contract_run Try.func23 (b := bod Try.f23) rfl ent ?_
  unfold fn at h
  obtain ⟨r8, h9, h⟩ := bind_cases h
  refine runTo_S (n := 100000) (c := (.code (bod Try.f23))) (K := []) (b := (.code (.loop L0))) (K1 := K0) (t := I0 (0 : Int) b0 (b0.length : Int) (0 : Int)) (l := [])
    (hs := [hA])
    (ps := [(0 : Int) = (0 : Int), ((vS (eI .u8) b0) : V) = (vS (eI .u8) b0), ((b0.length : Int) : Int) = (b0.length : Int), (0 : Int) = (0 : Int)])
    (by kernel_rfl) ⟨rfl, rfl, rfl, rfl, trivial⟩ (cut_code ?_)
  refine TW.mono_le (p0_c fuel b0 (b0.length : Int) fuel (0 : Int) (0 : Int) _ h9) ?_
  rintro e st hq
  obtain ⟨rfl, hl⟩ := hq
  refine ⟨_, hl, ?_⟩
  obtain rfl := Option.some.inj h
  exact runRet_S (r := ⟨Try.f23.results.toList, _, _, _, [], 9⟩) (n := 100000) (c := (.out (.exit 0))) (K := K0) (s := (J0_0 b0 (b0.length : Int) r8).sl)
    (hs := [])
    (ps := [(r8 : Int) = r8])
    (by kernel_rfl) ⟨rfl, trivial⟩ rfl (fun _ _ h => h)
end F23
namespace F86
/-! spec.OnceBy -/
noncomputable def K0 := (subC [1, 0, 0] (bod Try.f86) []).2
noncomputable def B0 := (subC [1, 0, 0] (bod Try.f86) []).1
def I0 (l1 : List T174) (s2 : ByteArray) : TL := ⟨17, [C.dead, C.dead], [(0, C.v (vS eT174 l1)), (1, C.v (vT s2))], [], []⟩
def J0_0 (l1 : List T174) (s2 : ByteArray) (o : Bool) : TL := ⟨17, [C.dead, C.dead], [(0, C.v (vS eT174 l1)), (1, C.v (vT s2)), (13, C.v (vB o))], [], []⟩
def Q0 (l1 : List T174) (s2 : ByteArray) (r : Bool) (e : Exit) (st : St) : Prop := (fun o => e = .normal ∧ Le st (J0_0 l1 s2 o).sl.st) r
def p0 (fuel : Nat) (l1 : List T174) (s2 : ByteArray) : Option Bool :=
  (F77.fn fuel l1).bind fun r3 =>
  cond (!r3)
  (some true)
  ((F78.fn fuel s2 40).bind fun r6 =>
    some (!r6))
theorem p0_c (fuel : Nat) (l1 : List T174) (s2 : ByteArray) (r : Bool) (h : p0 fuel l1 s2 = some r) : TW Try.prog B0 (I0 l1 s2).sl.st (Q0 l1 s2 r) := by
  unfold p0 at h
  obtain ⟨r3, h4, h⟩ := bind_cases h
  rcases cond_cases h with ⟨h5, h⟩ | ⟨h5, h⟩
  · 
    obtain rfl := Option.some.inj h
    exact runAt_S (Q := Q0 l1 s2 _) (n := 100000) (c := (.code B0)) (K := []) (s := (I0 l1 s2).sl) (e := .normal) (t := J0_0 l1 s2 true) (l := [])
      (hs := [.call ⟨[.ro], 9, [], true, [], (vB r3), [], 0⟩, hA, .skip, .g (.env 9 (C.v (vB true)))])
      (ps := [CallOK Try.prog 77 [.ro (vS eT174 l1)] [] (vB r3), C.v (vB (!r3)) = C.v (vB true), ((vS eT174 l1) : V) = (vS eT174 l1), Value.string s2 = Value.string s2, (true : Bool) = true])
      (by kernel_rfl) ⟨F77.fn_c fuel l1 _ h4, vbB h5, rfl, rfl, rfl, trivial⟩ (fun st hl => ⟨rfl, hl⟩)
  · 
    obtain ⟨r6, h7, h⟩ := bind_cases h
    obtain rfl := Option.some.inj h
    exact runAt_S (Q := Q0 l1 s2 _) (n := 100000) (c := (.code B0)) (K := []) (s := (I0 l1 s2).sl) (e := .normal) (t := J0_0 l1 s2 (!r6)) (l := [])
      (hs := [.call ⟨[.ro], 9, [], true, [], (vB r3), [], 0⟩, hA, .skip, .g (.env 9 (C.v (vB false))), .call ⟨[.ro, .ro], 9, [], true, [], (vB r6), [], 0⟩, hA])
      (ps := [CallOK Try.prog 77 [.ro (vS eT174 l1)] [] (vB r3), C.v (vB (!r3)) = C.v (vB false), CallOK Try.prog 78 [.ro (vT s2), .ro (vI .i64 40)] [] (vB r6), ((vS eT174 l1) : V) = (vS eT174 l1), Value.string s2 = Value.string s2, (!r6 : Bool) = (!r6)])
      (by kernel_rfl) ⟨F77.fn_c fuel l1 _ h4, vbB h5, F78.fn_c fuel s2 40 _ h7, rfl, rfl, rfl, trivial⟩ (fun st hl => ⟨rfl, hl⟩)
def fn (fuel : Nat) (l0 : List T174) (s1 : ByteArray) : Option ((List ByteArray) × Bool) :=
  (p0 fuel l0 s1).bind fun r8 =>
  cond (r8)
  (some (([] : List ByteArray), false))
  ((F140.fn fuel l0 s1).bind fun r11 =>
    some (r11, true))
theorem ent : enterable Try.prog 86 = true := by kernel_rfl
theorem fn_c (fuel : Nat) (l0 : List T174) (s1 : ByteArray) (r : (List ByteArray) × Bool) (h : fn fuel l0 s1 = some r) : CallOK Try.prog 86 [.ro (vS eT174 l0), .ro (vT s1)] [] (.tp [(vS eT r.1), (vB r.2)]) := by
  refine contract_run Try.func86 (b := bod Try.f86) rfl ent ?_
  unfold fn at h
  obtain ⟨r8, h9, h⟩ := bind_cases h
  refine runTo_S (n := 5) (c := (.code (bod Try.f86))) (K := []) (b := (.code B0)) (K1 := K0) (t := I0 l0 s1) (l := [])
    (hs := [])
    (ps := [((vS eT174 l0) : V) = (vS eT174 l0), Value.string s1 = Value.string s1])
    (by kernel_rfl) ⟨rfl, rfl, trivial⟩ (cut_code ?_)
  refine TW.mono_le (p0_c fuel l0 s1 _ h9) ?_
  rintro e st hq
  obtain ⟨rfl, hl⟩ := hq
  refine ⟨_, hl, ?_⟩
  rcases cond_cases h with ⟨h10, h⟩ | ⟨h10, h⟩
  · 
    obtain rfl := Option.some.inj h
    exact runRet_S (r := ⟨Try.f86.results.toList, _, _, _, [(0, (cs eT ([] : List ByteArray)), (cs eT ([] : List ByteArray)))], 9⟩) (n := 100000) (c := (.out .normal)) (K := K0) (s := (J0_0 l0 s1 r8).sl)
      (hs := [.g (.env 13 (C.v (vB true))), .skip, .skip, .skip, .g (.nilE 4 0 1)])
      (ps := [C.v (vB r8) = C.v (vB true), (own (cs eT ([] : List ByteArray))) = (cs eT ([] : List ByteArray)).map C.own, 0 + 0 * 1 ≤ (cs eT ([] : List ByteArray)).length, ((cs eT ([] : List ByteArray)).drop (0)).take (0 * 1) = (cs eT ([] : List ByteArray)), (V.tp [(.sl 1 0 (cs eT ([] : List ByteArray))), (vB false)]) = V.tp [(vS eT ([] : List ByteArray)), (vB false)]])
      (by kernel_rfl) ⟨vbB h10, rfl, len_all (e := eT) (rfl), take_cs (e := eT) (rfl), rfl, trivial⟩ rfl (fun _ _ h => h)
  · 
    obtain ⟨r11, h12, h⟩ := bind_cases h
    obtain rfl := Option.some.inj h
    exact runRet_S (r := ⟨Try.f86.results.toList, _, _, _, [(0, (cs eT r11), (cs eT r11))], 9⟩) (n := 100000) (c := (.out .normal)) (K := K0) (s := (J0_0 l0 s1 r8).sl)
      (hs := [.g (.env 13 (C.v (vB false))), .call ⟨[.ro, .ro], 9, [], true, [], (vS eT r11), [], 0⟩])
      (ps := [C.v (vB r8) = C.v (vB false), CallOK Try.prog 140 [.ro (vS eT174 l0), .ro (vT s1)] [] (vS eT r11), (own (cs eT r11)) = (cs eT r11).map C.own, 0 + r11.length * 1 ≤ (cs eT r11).length, ((cs eT r11).drop (0)).take (r11.length * 1) = (cs eT r11), (V.tp [(.sl 1 r11.length (cs eT r11)), (vB true)]) = V.tp [(vS eT r11), (vB true)]])
      (by kernel_rfl) ⟨vbB h10, F140.fn_c fuel l0 s1 _ h12, rfl, len_all (e := eT) (rfl), take_cs (e := eT) (rfl), rfl, trivial⟩ rfl (fun _ _ h => h)
end F86
namespace F24
/-! spec.DrawJoinedBy -/
noncomputable def K0 := (subC [1, 1, 1, 1, 0, 1, 0] (bod Try.f24) []).2
noncomputable def B0 := (subC [1, 1, 1, 1, 0, 1, 0] (bod Try.f24) []).1
def I0 (c7 : List Int) (c8 : Int) (c9 : Int) (l10 : List T174) (s11 : ByteArray) (x12 : List ByteArray) (ok13 : Bool) : TL := ⟨46, [C.dead], [(5, C.pr 0 0), (6, C.sr 1 0 2 l10.length), (7, C.v (vT s11)), (8, C.sr 2 0 1 x12.length), (9, C.v (vB ok13))], [(1, (cs eT174 l10)), (2, (cs eT x12))], [(0, [C.own (.im (vS (eI .u8) c7)), C.own (vI .i64 c8), C.own (vI .u64 c9)])]⟩
def J0_0 (c7 : List Int) (c8 : Int) (c9 : Int) (l10 : List T174) (s11 : ByteArray) (x12 : List ByteArray) (ok13 : Bool) (o : (List Int) × Int × Int × Bool) : TL := ⟨46, [C.dead], [(5, C.pr 0 0), (6, C.sr 1 0 2 l10.length), (7, C.v (vT s11)), (8, C.sr 2 0 1 x12.length), (32, C.v (vB o.2.2.2))], [(1, (cs eT174 l10)), (2, (cs eT x12))], [(0, [C.own (.im (vS (eI .u8) o.1)), C.own (vI .i64 o.2.1), C.own (vI .u64 o.2.2.1)])]⟩
def Q0 (c7 : List Int) (c8 : Int) (c9 : Int) (l10 : List T174) (s11 : ByteArray) (x12 : List ByteArray) (ok13 : Bool) (r : (List Int) × Int × Int × Bool) (e : Exit) (st : St) : Prop := (fun o => e = .normal ∧ Le st (J0_0 c7 c8 c9 l10 s11 x12 ok13 o).sl.st) r
def p0 (fuel : Nat) (c7 : List Int) (c8 : Int) (c9 : Int) (l10 : List T174) (s11 : ByteArray) (x12 : List ByteArray) (ok13 : Bool) : Option ((List Int) × Int × Int × Bool) :=
  cond (ok13)
  (cond (decide ((x12.length : Int) > 0))
    ((F87.fn fuel (⟨c7, c8, c9⟩ : T108) 2).bind fun r16 =>
      some (r16.2.f0, r16.2.f1, r16.2.f2, r16.1))
    (some (c7, c8, c9, false)))
  (some (c7, c8, c9, false))
theorem p0_c (fuel : Nat) (c7 : List Int) (c8 : Int) (c9 : Int) (l10 : List T174) (s11 : ByteArray) (x12 : List ByteArray) (ok13 : Bool) (r : (List Int) × Int × Int × Bool) (h : p0 fuel c7 c8 c9 l10 s11 x12 ok13 = some r) : TW Try.prog B0 (I0 c7 c8 c9 l10 s11 x12 ok13).sl.st (Q0 c7 c8 c9 l10 s11 x12 ok13 r) := by
  unfold p0 at h
  rcases cond_cases h with ⟨h14, h⟩ | ⟨h14, h⟩
  · 
    rcases cond_cases h with ⟨h15, h⟩ | ⟨h15, h⟩
    · 
      obtain ⟨r16, h17, h⟩ := bind_cases h
      obtain rfl := Option.some.inj h
      exact runAt_S (Q := Q0 c7 c8 c9 l10 s11 x12 ok13 _) (n := 100000) (c := (.code B0)) (K := []) (s := (I0 c7 c8 c9 l10 s11 x12 ok13).sl) (e := .normal) (t := J0_0 c7 c8 c9 l10 s11 x12 ok13 (r16.2.f0, r16.2.f1, r16.2.f2, r16.1)) (l := [(0, 0), (1, 1), (2, 2)])
        (hs := [.skip, .skip, .g (.env 24 (C.v (vB true))), hA, hA, .skip, .skip, .g (.env 29 (C.v (vB true))), .call ⟨[(.io none), .ro], 9, [], true, [(.bx (eT108.f r16.2))], (vB r16.1), [[C.own (.im (vS (eI .u8) r16.2.f0)), C.own (vI .i64 r16.2.f1), C.own (vI .u64 r16.2.f2)]], 3⟩])
        (ps := [C.v (vB ok13) = C.v (vB true), C.v (vB (decide ((x12.length : Int) > 0))) = C.v (vB true), CallOK Try.prog 87 [.io (.bx [(.im (vS (eI .u8) c7)), (vI .i64 c8), (vI .u64 c9)]), .ro (vI .i64 2)] [(.bx (eT108.f r16.2))] (vB r16.1), ((eT108.f r16.2) : List V).length = 3, ((eT108.f r16.2) : List V).length = 3 ∨ ([C.own (.im (vS (eI .u8) c7)), C.own (vI .i64 c8), C.own (vI .u64 c9)] : List C).length ≤ 0 + 3, ([C.own (.im (vS (eI .u8) c7)), C.own (vI .i64 c8), C.own (vI .u64 c9)] : List C).take 0 ++ ((eT108.f r16.2) : List V).map C.own ++ ([C.own (.im (vS (eI .u8) c7)), C.own (vI .i64 c8), C.own (vI .u64 c9)] : List C).drop (0 + 3) = [C.own (.im (vS (eI .u8) r16.2.f0)), C.own (vI .i64 r16.2.f1), C.own (vI .u64 r16.2.f2)], 0 = 0, 0 = 0, l10.length = l10.length, Value.string s11 = Value.string s11, 0 = 0, x12.length = x12.length, (r16.1 : Bool) = r16.1, (own (cs eT174 l10)) = (cs eT174 l10).map C.own, (own (cs eT x12)) = (cs eT x12).map C.own, (V.im (vS (eI .u8) r16.2.f0)) = V.im (vS (eI .u8) r16.2.f0), (r16.2.f1 : Int) = r16.2.f1, (r16.2.f2 : Int) = r16.2.f2])
        (by kernel_rfl) ⟨vbB h14, vbB h15, F87.fn_c fuel (⟨c7, c8, c9⟩ : T108) 2 _ h17, rfl, .inl rfl, rfl, rfl, rfl, rfl, rfl, rfl, rfl, rfl, rfl, rfl, rfl, rfl, rfl, trivial⟩ (fun st hl => ⟨rfl, hl⟩)
    · 
      obtain rfl := Option.some.inj h
      exact runAt_S (Q := Q0 c7 c8 c9 l10 s11 x12 ok13 _) (n := 100000) (c := (.code B0)) (K := []) (s := (I0 c7 c8 c9 l10 s11 x12 ok13).sl) (e := .normal) (t := J0_0 c7 c8 c9 l10 s11 x12 ok13 (c7, c8, c9, false)) (l := [(0, 0), (1, 1), (2, 2)])
        (hs := [.skip, .skip, .g (.env 24 (C.v (vB true))), hA, hA, .skip, .skip, .g (.env 29 (C.v (vB false)))])
        (ps := [C.v (vB ok13) = C.v (vB true), C.v (vB (decide ((x12.length : Int) > 0))) = C.v (vB false), 0 = 0, 0 = 0, l10.length = l10.length, Value.string s11 = Value.string s11, 0 = 0, x12.length = x12.length, (false : Bool) = false, (own (cs eT174 l10)) = (cs eT174 l10).map C.own, (own (cs eT x12)) = (cs eT x12).map C.own, (V.im (vS (eI .u8) c7)) = V.im (vS (eI .u8) c7), (c8 : Int) = c8, (c9 : Int) = c9])
        (by kernel_rfl) ⟨vbB h14, vbB h15, rfl, rfl, rfl, rfl, rfl, rfl, rfl, rfl, rfl, rfl, rfl, rfl, trivial⟩ (fun st hl => ⟨rfl, hl⟩)
  · 
    obtain rfl := Option.some.inj h
    exact runAt_S (Q := Q0 c7 c8 c9 l10 s11 x12 ok13 _) (n := 100000) (c := (.code B0)) (K := []) (s := (I0 c7 c8 c9 l10 s11 x12 ok13).sl) (e := .normal) (t := J0_0 c7 c8 c9 l10 s11 x12 ok13 (c7, c8, c9, false)) (l := [(0, 0), (1, 1), (2, 2)])
      (hs := [.skip, .skip, .g (.env 24 (C.v (vB false)))])
      (ps := [C.v (vB ok13) = C.v (vB false), 0 = 0, 0 = 0, l10.length = l10.length, Value.string s11 = Value.string s11, 0 = 0, x12.length = x12.length, (false : Bool) = false, (own (cs eT174 l10)) = (cs eT174 l10).map C.own, (own (cs eT x12)) = (cs eT x12).map C.own, (V.im (vS (eI .u8) c7)) = V.im (vS (eI .u8) c7), (c8 : Int) = c8, (c9 : Int) = c9])
      (by kernel_rfl) ⟨vbB h14, rfl, rfl, rfl, rfl, rfl, rfl, rfl, rfl, rfl, rfl, rfl, rfl, trivial⟩ (fun st hl => ⟨rfl, hl⟩)
def fn (fuel : Nat) (code0 : List Int) : Option ((List T174) × ByteArray × ByteArray) :=
  (F84.fn fuel (⟨code0, 0, 0⟩ : T108)).bind fun r1 =>
  (F85.fn fuel r1.2).bind fun r3 =>
  (F86.fn fuel r1.1 r3.1).bind fun r5 =>
  (p0 fuel r3.2.f0 r3.2.f1 r3.2.f2 r1.1 r3.1 r5.1 r5.2).bind fun r18 =>
  cond (r18.2.2.2)
  ((F88.fn fuel (⟨r18.1, r18.2.1, r18.2.2.1⟩ : T108) (r5.1.length : Int)).bind fun r21 =>
    (idx r21.1 r5.1.length).bind fun j23 =>
    some (r1.1, r3.1, (r5.1.getD j23 ByteArray.empty)))
  ((F85.fn fuel (⟨r18.1, r18.2.1, r18.2.2.1⟩ : T108)).bind fun r25 =>
    some (r1.1, r3.1, r25.1))
theorem ent : enterable Try.prog 24 = true := by kernel_rfl
theorem fn_c (fuel : Nat) (code0 : List Int) (r : (List T174) × ByteArray × ByteArray) (h : fn fuel code0 = some r) : CallOK Try.prog 24 [.ro (vS (eI .u8) code0)] [] (.tp [(vS eT174 r.1), (vT r.2.1), (vT r.2.2)]) := by
  refine contract_run Try.func24 (b := bod Try.f24) rfl ent ?_
  unfold fn at h
  obtain ⟨r1, h2, h⟩ := bind_cases h
  obtain ⟨r3, h4, h⟩ := bind_cases h
  obtain ⟨r5, h6, h⟩ := bind_cases h
  obtain ⟨r18, h19, h⟩ := bind_cases h
  refine runTo_S (n := 17) (c := (.code (bod Try.f24))) (K := []) (b := (.code B0)) (K1 := K0) (t := I0 r3.2.f0 r3.2.f1 r3.2.f2 r1.1 r3.1 r5.1 r5.2) (l := [(0, 0), (1, 1), (2, 2)])
    (hs := [.h (.new 0), .call ⟨[(.io none)], 9, [], true, [(.bx (eT108.f r1.2))], (vS eT174 r1.1), [[C.own (.im (vS (eI .u8) r1.2.f0)), C.own (vI .i64 r1.2.f1), C.own (vI .u64 r1.2.f2)]], 1⟩, .call ⟨[(.io none)], 9, [], true, [(.bx (eT108.f r3.2))], (vT r3.1), [[C.own (.im (vS (eI .u8) r3.2.f0)), C.own (vI .i64 r3.2.f1), C.own (vI .u64 r3.2.f2)]], 2⟩, .call ⟨[.ro, .ro], 9, [(1, (cs eT174 r1.1), (cs eT174 r1.1))], false, [], (.tp [(vS eT r5.1), (vB r5.2)]), [], 2⟩])
    (ps := [CallOK Try.prog 84 [.io (.bx [(.im (vS (eI .u8) code0)), (vI .i64 0), (vI .u64 0)])] [(.bx (eT108.f r1.2))] (vS eT174 r1.1), ((eT108.f r1.2) : List V).length = 3, ((eT108.f r1.2) : List V).length = 3 ∨ ([C.v (vS (eI .u8) code0), C.own (vI .i64 0), C.own (vI .u64 0)] : List C).length ≤ 0 + 3, ([C.v (vS (eI .u8) code0), C.own (vI .i64 0), C.own (vI .u64 0)] : List C).take 0 ++ ((eT108.f r1.2) : List V).map C.own ++ ([C.v (vS (eI .u8) code0), C.own (vI .i64 0), C.own (vI .u64 0)] : List C).drop (0 + 3) = [C.own (.im (vS (eI .u8) r1.2.f0)), C.own (vI .i64 r1.2.f1), C.own (vI .u64 r1.2.f2)], CallOK Try.prog 85 [.io (.bx [(.im (vS (eI .u8) r1.2.f0)), (vI .i64 r1.2.f1), (vI .u64 r1.2.f2)])] [(.bx (eT108.f r3.2))] (vT r3.1), ((eT108.f r3.2) : List V).length = 3, ((eT108.f r3.2) : List V).length = 3 ∨ ([C.own (.im (vS (eI .u8) r1.2.f0)), C.own (vI .i64 r1.2.f1), C.own (vI .u64 r1.2.f2)] : List C).length ≤ 0 + 3, ([C.own (.im (vS (eI .u8) r1.2.f0)), C.own (vI .i64 r1.2.f1), C.own (vI .u64 r1.2.f2)] : List C).take 0 ++ ((eT108.f r3.2) : List V).map C.own ++ ([C.own (.im (vS (eI .u8) r1.2.f0)), C.own (vI .i64 r1.2.f1), C.own (vI .u64 r1.2.f2)] : List C).drop (0 + 3) = [C.own (.im (vS (eI .u8) r3.2.f0)), C.own (vI .i64 r3.2.f1), C.own (vI .u64 r3.2.f2)], CallOK Try.prog 86 [.ro (.sl 2 r1.1.length (cs eT174 r1.1)), .ro (vT r3.1)] [] (.tp [(vS eT r5.1), (vB r5.2)]), (own (cs eT174 r1.1)) = (cs eT174 r1.1).map C.own, 0 + r1.1.length * 2 ≤ (cs eT174 r1.1).length, ((cs eT174 r1.1).drop (0)).take (r1.1.length * 2) = (cs eT174 r1.1), (noImL [] && noIm (.tp [(vS eT r5.1), (vB r5.2)])) = true, 0 = 0, 0 = 0, r1.1.length = r1.1.length, Value.string r3.1 = Value.string r3.1, 0 = 0, r5.1.length = r5.1.length, (r5.2 : Bool) = r5.2, (own (cs eT174 r1.1)) = (cs eT174 r1.1).map C.own, (own (cs eT r5.1)) = (cs eT r5.1).map C.own, (V.im (vS (eI .u8) r3.2.f0)) = V.im (vS (eI .u8) r3.2.f0), (r3.2.f1 : Int) = r3.2.f1, (r3.2.f2 : Int) = r3.2.f2])
    (by kernel_rfl) ⟨F84.fn_c fuel (⟨code0, 0, 0⟩ : T108) _ h2, rfl, .inl rfl, rfl, F85.fn_c fuel r1.2 _ h4, rfl, .inl rfl, rfl, F86.fn_c fuel r1.1 r3.1 _ h6, rfl, len_all (e := eT174) (rfl), take_cs (e := eT174) (rfl), by simp [noIm, noImL, noImL_cs, NI.noim], rfl, rfl, rfl, rfl, rfl, rfl, rfl, rfl, rfl, rfl, rfl, rfl, trivial⟩ (cut_code ?_)
  refine TW.mono_le (p0_c fuel r3.2.f0 r3.2.f1 r3.2.f2 r1.1 r3.1 r5.1 r5.2 _ h19) ?_
  rintro e st hq
  obtain ⟨rfl, hl⟩ := hq
  refine ⟨_, hl, ?_⟩
  rcases cond_cases h with ⟨h20, h⟩ | ⟨h20, h⟩
  · 
    obtain ⟨r21, h22, h⟩ := bind_cases h
    obtain ⟨j23, h24, h⟩ := bind_cases h
    obtain rfl := Option.some.inj h
    exact runRet_S (r := ⟨Try.f24.results.toList, _, _, _, [(1, (cs eT174 r1.1), (cs eT174 r1.1))], 9⟩) (n := 100000) (c := (.out .normal)) (K := K0) (s := (J0_0 r3.2.f0 r3.2.f1 r3.2.f2 r1.1 r3.1 r5.1 r5.2 r18).sl)
      (hs := [.g (.env 32 (C.v (vB true))), .any [[], [], [], [], [], [], [0], [], [], [], [], []], hA, .call ⟨[(.io none), .ro], 9, [], true, [(.bx (eT108.f r21.2))], (vI .i64 r21.1), [[C.own (.im (vS (eI .u8) r21.2.f0)), C.own (vI .i64 r21.2.f1), C.own (vI .u64 r21.2.f2)]], 3⟩, .h (.idx j23 false), .h (.cell (C.v (vT (r5.1.getD j23 ByteArray.empty))))])
      (ps := [C.v (vB r18.2.2.2) = C.v (vB true), CallOK Try.prog 88 [.io (.bx [(.im (vS (eI .u8) r18.1)), (vI .i64 r18.2.1), (vI .u64 r18.2.2.1)]), .ro (vI .i64 (r5.1.length : Int))] [(.bx (eT108.f r21.2))] (vI .i64 r21.1), ((eT108.f r21.2) : List V).length = 3, ((eT108.f r21.2) : List V).length = 3 ∨ ([C.own (.im (vS (eI .u8) r18.1)), C.own (vI .i64 r18.2.1), C.own (vI .u64 r18.2.2.1)] : List C).length ≤ 0 + 3, ([C.own (.im (vS (eI .u8) r18.1)), C.own (vI .i64 r18.2.1), C.own (vI .u64 r18.2.2.1)] : List C).take 0 ++ ((eT108.f r21.2) : List V).map C.own ++ ([C.own (.im (vS (eI .u8) r18.1)), C.own (vI .i64 r18.2.1), C.own (vI .u64 r18.2.2.1)] : List C).drop (0 + 3) = [C.own (.im (vS (eI .u8) r21.2.f0)), C.own (vI .i64 r21.2.f1), C.own (vI .u64 r21.2.f2)], r21.1 = (j23 : Int), j23 < r5.1.length, ((own (cs eT r5.1))[0 + j23 * 1]?).bind readC = some (C.v (vT (r5.1.getD j23 ByteArray.empty))), (own (cs eT174 r1.1)) = (cs eT174 r1.1).map C.own, 0 + r1.1.length * 2 ≤ (cs eT174 r1.1).length, ((cs eT174 r1.1).drop (0)).take (r1.1.length * 2) = (cs eT174 r1.1), (V.tp [(.sl 2 r1.1.length (cs eT174 r1.1)), (vT r3.1), (vT (r5.1.getD j23 ByteArray.empty))]) = V.tp [(vS eT174 r1.1), (vT r3.1), (vT (r5.1.getD j23 ByteArray.empty))]])
      (by kernel_rfl) ⟨vbB h20, F88.fn_c fuel (⟨r18.1, r18.2.1, r18.2.2.1⟩ : T108) (r5.1.length : Int) _ h22, rfl, .inl rfl, rfl, (idx_S h24).1, (idx_S h24).2, readC_at (e := eT) (k := 0) (d := ByteArray.empty) (idx_S h24).2 (by decide) rfl, rfl, len_all (e := eT174) (rfl), take_cs (e := eT174) (rfl), rfl, trivial⟩ rfl (fun _ _ h => h)
  · 
    obtain ⟨r25, h26, h⟩ := bind_cases h
    obtain rfl := Option.some.inj h
    exact runRet_S (r := ⟨Try.f24.results.toList, _, _, _, [(1, (cs eT174 r1.1), (cs eT174 r1.1))], 9⟩) (n := 100000) (c := (.out .normal)) (K := K0) (s := (J0_0 r3.2.f0 r3.2.f1 r3.2.f2 r1.1 r3.1 r5.1 r5.2 r18).sl)
      (hs := [.g (.env 32 (C.v (vB false))), .call ⟨[(.io none)], 9, [], true, [(.bx (eT108.f r25.2))], (vT r25.1), [[C.own (.im (vS (eI .u8) r25.2.f0)), C.own (vI .i64 r25.2.f1), C.own (vI .u64 r25.2.f2)]], 3⟩])
      (ps := [C.v (vB r18.2.2.2) = C.v (vB false), CallOK Try.prog 85 [.io (.bx [(.im (vS (eI .u8) r18.1)), (vI .i64 r18.2.1), (vI .u64 r18.2.2.1)])] [(.bx (eT108.f r25.2))] (vT r25.1), ((eT108.f r25.2) : List V).length = 3, ((eT108.f r25.2) : List V).length = 3 ∨ ([C.own (.im (vS (eI .u8) r18.1)), C.own (vI .i64 r18.2.1), C.own (vI .u64 r18.2.2.1)] : List C).length ≤ 0 + 3, ([C.own (.im (vS (eI .u8) r18.1)), C.own (vI .i64 r18.2.1), C.own (vI .u64 r18.2.2.1)] : List C).take 0 ++ ((eT108.f r25.2) : List V).map C.own ++ ([C.own (.im (vS (eI .u8) r18.1)), C.own (vI .i64 r18.2.1), C.own (vI .u64 r18.2.2.1)] : List C).drop (0 + 3) = [C.own (.im (vS (eI .u8) r25.2.f0)), C.own (vI .i64 r25.2.f1), C.own (vI .u64 r25.2.f2)], (own (cs eT174 r1.1)) = (cs eT174 r1.1).map C.own, 0 + r1.1.length * 2 ≤ (cs eT174 r1.1).length, ((cs eT174 r1.1).drop (0)).take (r1.1.length * 2) = (cs eT174 r1.1), (V.tp [(.sl 2 r1.1.length (cs eT174 r1.1)), (vT r3.1), (vT r25.1)]) = V.tp [(vS eT174 r1.1), (vT r3.1), (vT r25.1)]])
      (by kernel_rfl) ⟨vbB h20, F85.fn_c fuel (⟨r18.1, r18.2.1, r18.2.2.1⟩ : T108) _ h26, rfl, .inl rfl, rfl, rfl, len_all (e := eT174) (rfl), take_cs (e := eT174) (rfl), rfl, trivial⟩ rfl (fun _ _ h => h)
end F24
namespace F25
/-! impl.JoinedBy -/
def fn (fuel : Nat) (l0 : List T174) (a1 : ByteArray) (b2 : ByteArray) : Option (Bool × Bool) :=
  (F15.fn fuel l0 a1).bind fun r1 =>
  (F15.fn fuel l0 b2).bind fun r3 =>
  cond (!r1.2.2)
  (some (false, false))
  (cond (!r3.2.2)
    (some (false, false))
    (some (sEq r1.1 r3.1, true)))
theorem ent : enterable Try.prog 25 = true := by kernel_rfl
theorem fn_c (fuel : Nat) (l0 : List T174) (a1 : ByteArray) (b2 : ByteArray) (r : Bool × Bool) (h : fn fuel l0 a1 b2 = some r) : CallOK Try.prog 25 [.ro (vS eT174 l0), .ro (vT a1), .ro (vT b2)] [] (.tp [(vB r.1), (vB r.2)]) := by
  refine contract_run Try.func25 (b := bod Try.f25) rfl ent ?_
  unfold fn at h
  obtain ⟨r1, h2, h⟩ := bind_cases h
  obtain ⟨r3, h4, h⟩ := bind_cases h
  rcases cond_cases h with ⟨h5, h⟩ | ⟨h5, h⟩
  · 
    obtain rfl := Option.some.inj h
    exact runRet_S (r := ⟨Try.f25.results.toList, _, _, _, [], 9⟩) (n := 100000) (c := (.code (bod Try.f25))) (K := [])
      (hs := [.call ⟨[.ro, .ro], 9, [], true, [], (.tp [(vT r1.1), (vI .i64 r1.2.1), (vB r1.2.2)]), [], 0⟩, .call ⟨[.ro, .ro], 9, [], true, [], (.tp [(vT r3.1), (vI .i64 r3.2.1), (vB r3.2.2)]), [], 0⟩, hA, .skip, .g (.env 30 (C.v (vB true)))])
      (ps := [CallOK Try.prog 15 [.ro (vS eT174 l0), .ro (vT a1)] [] (.tp [(vT r1.1), (vI .i64 r1.2.1), (vB r1.2.2)]), CallOK Try.prog 15 [.ro (vS eT174 l0), .ro (vT b2)] [] (.tp [(vT r3.1), (vI .i64 r3.2.1), (vB r3.2.2)]), C.v (vB (!r1.2.2)) = C.v (vB true), (V.tp [(vB false), (vB false)]) = V.tp [(vB false), (vB false)]])
      (by kernel_rfl) ⟨F15.fn_c fuel l0 a1 _ h2, F15.fn_c fuel l0 b2 _ h4, vbB h5, rfl, trivial⟩ rfl (fun _ _ h => h)
  · 
    rcases cond_cases h with ⟨h6, h⟩ | ⟨h6, h⟩
    · 
      obtain rfl := Option.some.inj h
      exact runRet_S (r := ⟨Try.f25.results.toList, _, _, _, [], 9⟩) (n := 100000) (c := (.code (bod Try.f25))) (K := [])
        (hs := [.call ⟨[.ro, .ro], 9, [], true, [], (.tp [(vT r1.1), (vI .i64 r1.2.1), (vB r1.2.2)]), [], 0⟩, .call ⟨[.ro, .ro], 9, [], true, [], (.tp [(vT r3.1), (vI .i64 r3.2.1), (vB r3.2.2)]), [], 0⟩, hA, .skip, .g (.env 30 (C.v (vB false))), hA, .skip, .g (.env 33 (C.v (vB true)))])
        (ps := [CallOK Try.prog 15 [.ro (vS eT174 l0), .ro (vT a1)] [] (.tp [(vT r1.1), (vI .i64 r1.2.1), (vB r1.2.2)]), CallOK Try.prog 15 [.ro (vS eT174 l0), .ro (vT b2)] [] (.tp [(vT r3.1), (vI .i64 r3.2.1), (vB r3.2.2)]), C.v (vB (!r1.2.2)) = C.v (vB false), C.v (vB (!r3.2.2)) = C.v (vB true), (V.tp [(vB false), (vB false)]) = V.tp [(vB false), (vB false)]])
        (by kernel_rfl) ⟨F15.fn_c fuel l0 a1 _ h2, F15.fn_c fuel l0 b2 _ h4, vbB h5, vbB h6, rfl, trivial⟩ rfl (fun _ _ h => h)
    · 
      obtain rfl := Option.some.inj h
      exact runRet_S (r := ⟨Try.f25.results.toList, _, _, _, [], 9⟩) (n := 100000) (c := (.code (bod Try.f25))) (K := [])
        (hs := [.call ⟨[.ro, .ro], 9, [], true, [], (.tp [(vT r1.1), (vI .i64 r1.2.1), (vB r1.2.2)]), [], 0⟩, .call ⟨[.ro, .ro], 9, [], true, [], (.tp [(vT r3.1), (vI .i64 r3.2.1), (vB r3.2.2)]), [], 0⟩, hA, .skip, .g (.env 30 (C.v (vB false))), hA, .skip, .g (.env 33 (C.v (vB false))), hA])
        (ps := [CallOK Try.prog 15 [.ro (vS eT174 l0), .ro (vT a1)] [] (.tp [(vT r1.1), (vI .i64 r1.2.1), (vB r1.2.2)]), CallOK Try.prog 15 [.ro (vS eT174 l0), .ro (vT b2)] [] (.tp [(vT r3.1), (vI .i64 r3.2.1), (vB r3.2.2)]), C.v (vB (!r1.2.2)) = C.v (vB false), C.v (vB (!r3.2.2)) = C.v (vB false), (V.tp [(vB (sEq r1.1 r3.1)), (vB true)]) = V.tp [(vB (sEq r1.1 r3.1)), (vB true)]])
        (by kernel_rfl) ⟨F15.fn_c fuel l0 a1 _ h2, F15.fn_c fuel l0 b2 _ h4, vbB h5, vbB h6, rfl, trivial⟩ rfl (fun _ _ h => h)
end F25
namespace F26
/-! spec.JoinedBy -/
def fn (fuel : Nat) (l0 : List T174) (a1 : ByteArray) (b2 : ByteArray) : Option (Bool × Bool) :=
  (F16.fn fuel l0 a1).bind fun r1 =>
  (F16.fn fuel l0 b2).bind fun r3 =>
  cond (r1.2.2)
  (cond (r3.2.2)
    (some (sEq r1.1 r3.1, r3.2.2))
    (some (false, r3.2.2)))
  (some (false, false))
theorem ent : enterable Try.prog 26 = true := by kernel_rfl
theorem fn_c (fuel : Nat) (l0 : List T174) (a1 : ByteArray) (b2 : ByteArray) (r : Bool × Bool) (h : fn fuel l0 a1 b2 = some r) : CallOK Try.prog 26 [.ro (vS eT174 l0), .ro (vT a1), .ro (vT b2)] [] (.tp [(vB r.1), (vB r.2)]) := by
  refine contract_run Try.func26 (b := bod Try.f26) rfl ent ?_
  unfold fn at h
  obtain ⟨r1, h2, h⟩ := bind_cases h
  obtain ⟨r3, h4, h⟩ := bind_cases h
  rcases cond_cases h with ⟨h5, h⟩ | ⟨h5, h⟩
  · 
    rcases cond_cases h with ⟨h6, h⟩ | ⟨h6, h⟩
    · 
      obtain rfl := Option.some.inj h
      exact runRet_S (r := ⟨Try.f26.results.toList, _, _, _, [], 9⟩) (n := 100000) (c := (.code (bod Try.f26))) (K := [])
        (hs := [.call ⟨[.ro, .ro], 9, [], true, [], (.tp [(vT r1.1), (vI .i64 r1.2.1), (vB r1.2.2)]), [], 0⟩, .call ⟨[.ro, .ro], 9, [], true, [], (.tp [(vT r3.1), (vI .i64 r3.2.1), (vB r3.2.2)]), [], 0⟩, .skip, .skip, .skip, .skip, .skip, .skip, .skip, .skip, .skip, .g (.env 29 (C.v (vB true))), .skip, .skip, .skip, .g (.env 32 (C.v (vB true))), hA, .skip, .skip, .skip, .g (.env 38 (C.v (vB true)))])
        (ps := [CallOK Try.prog 16 [.ro (vS eT174 l0), .ro (vT a1)] [] (.tp [(vT r1.1), (vI .i64 r1.2.1), (vB r1.2.2)]), CallOK Try.prog 16 [.ro (vS eT174 l0), .ro (vT b2)] [] (.tp [(vT r3.1), (vI .i64 r3.2.1), (vB r3.2.2)]), C.v (vB r1.2.2) = C.v (vB true), C.v (vB r3.2.2) = C.v (vB true), C.v (vB r1.2.2) = C.v (vB true), (V.tp [(vB (sEq r1.1 r3.1)), (vB r3.2.2)]) = V.tp [(vB (sEq r1.1 r3.1)), (vB r3.2.2)]])
        (by kernel_rfl) ⟨F16.fn_c fuel l0 a1 _ h2, F16.fn_c fuel l0 b2 _ h4, vbB h5, vbB h6, vbB h5, rfl, trivial⟩ rfl (fun _ _ h => h)
    · 
      obtain rfl := Option.some.inj h
      exact runRet_S (r := ⟨Try.f26.results.toList, _, _, _, [], 9⟩) (n := 100000) (c := (.code (bod Try.f26))) (K := [])
        (hs := [.call ⟨[.ro, .ro], 9, [], true, [], (.tp [(vT r1.1), (vI .i64 r1.2.1), (vB r1.2.2)]), [], 0⟩, .call ⟨[.ro, .ro], 9, [], true, [], (.tp [(vT r3.1), (vI .i64 r3.2.1), (vB r3.2.2)]), [], 0⟩, .skip, .skip, .skip, .skip, .skip, .skip, .skip, .skip, .skip, .g (.env 29 (C.v (vB true))), .skip, .skip, .skip, .g (.env 32 (C.v (vB false))), .skip, .skip, .skip, .skip, .skip, .skip, .g (.env 38 (C.v (vB true)))])
        (ps := [CallOK Try.prog 16 [.ro (vS eT174 l0), .ro (vT a1)] [] (.tp [(vT r1.1), (vI .i64 r1.2.1), (vB r1.2.2)]), CallOK Try.prog 16 [.ro (vS eT174 l0), .ro (vT b2)] [] (.tp [(vT r3.1), (vI .i64 r3.2.1), (vB r3.2.2)]), C.v (vB r1.2.2) = C.v (vB true), C.v (vB r3.2.2) = C.v (vB false), C.v (vB r1.2.2) = C.v (vB true), (V.tp [(vB false), (vB r3.2.2)]) = V.tp [(vB false), (vB r3.2.2)]])
        (by kernel_rfl) ⟨F16.fn_c fuel l0 a1 _ h2, F16.fn_c fuel l0 b2 _ h4, vbB h5, vbB h6, vbB h5, rfl, trivial⟩ rfl (fun _ _ h => h)
  · 
    obtain rfl := Option.some.inj h
    exact runRet_S (r := ⟨Try.f26.results.toList, _, _, _, [], 9⟩) (n := 100000) (c := (.code (bod Try.f26))) (K := [])
      (hs := [.call ⟨[.ro, .ro], 9, [], true, [], (.tp [(vT r1.1), (vI .i64 r1.2.1), (vB r1.2.2)]), [], 0⟩, .call ⟨[.ro, .ro], 9, [], true, [], (.tp [(vT r3.1), (vI .i64 r3.2.1), (vB r3.2.2)]), [], 0⟩, .skip, .skip, .skip, .skip, .skip, .skip, .skip, .skip, .skip, .g (.env 29 (C.v (vB false))), .skip, .skip, .skip, .skip, .skip, .skip, .skip, .skip, .skip, .g (.env 38 (C.v (vB false)))])
      (ps := [CallOK Try.prog 16 [.ro (vS eT174 l0), .ro (vT a1)] [] (.tp [(vT r1.1), (vI .i64 r1.2.1), (vB r1.2.2)]), CallOK Try.prog 16 [.ro (vS eT174 l0), .ro (vT b2)] [] (.tp [(vT r3.1), (vI .i64 r3.2.1), (vB r3.2.2)]), C.v (vB r1.2.2) = C.v (vB false), C.v (vB r1.2.2) = C.v (vB false), (V.tp [(vB false), (vB false)]) = V.tp [(vB false), (vB false)]])
      (by kernel_rfl) ⟨F16.fn_c fuel l0 a1 _ h2, F16.fn_c fuel l0 b2 _ h4, vbB h5, vbB h5, rfl, trivial⟩ rfl (fun _ _ h => h)
end F26
namespace F3
/-! laws.FnRewrite -/
noncomputable def K0 := (subC [1, 1, 1, 1, 1, 1, 1, 1, 1, 0, 0] (bod Try.f3) []).2
noncomputable def B0 := (subC [1, 1, 1, 1, 1, 1, 1, 1, 1, 0, 0] (bod Try.f3) []).1
noncomputable def K1 := (subC [1, 1, 1, 1, 1, 1, 1, 1, 1, 1, 0, 1] (bod Try.f3) []).2
noncomputable def B1 := (subC [1, 1, 1, 1, 1, 1, 1, 1, 1, 1, 0, 1] (bod Try.f3) []).1
noncomputable def K2 := (subC [0, 1, 0, 0] B1 []).2
noncomputable def B2 := (subC [0, 1, 0, 0] B1 []).1
noncomputable def K3 := (subC [0, 1, 1, 0] B1 []).2
noncomputable def B3 := (subC [0, 1, 1, 0] B1 []).1
noncomputable def K4 := (subC [0, 1, 1, 1, 0, 0, 0] B1 []).2
noncomputable def B4 := (subC [0, 1, 1, 1, 0, 0, 0] B1 []).1
def I0 (more16 : List Int) (l17 : List T174) (s18 : ByteArray) (t19 : ByteArray) (n20 : Int) (ok21 : Bool) (want22 : ByteArray) (many23 : Int) (fine24 : Bool) (u25 : ByteArray) (one26 : Bool) (last27 : ByteArray) (may28 : Bool) (c29 : Bool) (two30 : Bool) (confluent31 : Bool) (can32 : Bool) : TL := ⟨216, [C.dead, C.dead], [(1, C.v (vS (eI .u8) more16)), (5, C.sr 0 0 2 l17.length), (6, C.v (vT s18)), (7, C.v (vT t19)), (8, C.v (vI .i64 n20)), (9, C.v (vB ok21)), (10, C.v (vT want22)), (11, C.v (vI .i64 many23)), (12, C.v (vB fine24)), (13, C.v (vT u25)), (14, C.v (vB one26)), (15, C.v (vT last27)), (16, C.v (vB may28)), (17, C.v (vB c29)), (18, C.v (vB two30)), (19, C.v (vB confluent31)), (20, C.v (vB can32))], [(0, (cs eT174 l17))], []⟩
def J0_0 (more16 : List Int) (l17 : List T174) (s18 : ByteArray) (t19 : ByteArray) (n20 : Int) (ok21 : Bool) (want22 : ByteArray) (many23 : Int) (fine24 : Bool) (u25 : ByteArray) (one26 : Bool) (last27 : ByteArray) (may28 : Bool) (c29 : Bool) (two30 : Bool) (confluent31 : Bool) (can32 : Bool) (o : Bool) : TL := ⟨216, [C.dead, C.dead], [(1, C.v (vS (eI .u8) more16)), (5, C.sr 0 0 2 l17.length), (6, C.v (vT s18)), (7, C.v (vT t19)), (8, C.v (vI .i64 n20)), (9, C.v (vB ok21)), (13, C.v (vT u25)), (14, C.v (vB one26)), (17, C.v (vB c29)), (18, C.v (vB two30)), (114, C.v (vB o))], [(0, (cs eT174 l17))], []⟩
def Q0 (more16 : List Int) (l17 : List T174) (s18 : ByteArray) (t19 : ByteArray) (n20 : Int) (ok21 : Bool) (want22 : ByteArray) (many23 : Int) (fine24 : Bool) (u25 : ByteArray) (one26 : Bool) (last27 : ByteArray) (may28 : Bool) (c29 : Bool) (two30 : Bool) (confluent31 : Bool) (can32 : Bool) (r : Bool) (e : Exit) (st : St) : Prop := (fun o => e = .normal ∧ Le st (J0_0 more16 l17 s18 t19 n20 ok21 want22 many23 fine24 u25 one26 last27 may28 c29 two30 confluent31 can32 o).sl.st) r
def p0 (fuel : Nat) (more16 : List Int) (l17 : List T174) (s18 : ByteArray) (t19 : ByteArray) (n20 : Int) (ok21 : Bool) (want22 : ByteArray) (many23 : Int) (fine24 : Bool) (u25 : ByteArray) (one26 : Bool) (last27 : ByteArray) (may28 : Bool) (c29 : Bool) (two30 : Bool) (confluent31 : Bool) (can32 : Bool) : Option Bool :=
  cond (ok21 != fine24)
  (some true)
  (cond (!sEq t19 want22)
    (some true)
    (cond (!decide (n20 = many23))
      (some true)
      (cond (one26 != may28)
        (some true)
        (cond (!sEq u25 last27)
          (some true)
          (cond (two30 != can32)
            (some true)
            (some (c29 != confluent31)))))))
theorem p0_c (fuel : Nat) (more16 : List Int) (l17 : List T174) (s18 : ByteArray) (t19 : ByteArray) (n20 : Int) (ok21 : Bool) (want22 : ByteArray) (many23 : Int) (fine24 : Bool) (u25 : ByteArray) (one26 : Bool) (last27 : ByteArray) (may28 : Bool) (c29 : Bool) (two30 : Bool) (confluent31 : Bool) (can32 : Bool) (r : Bool) (h : p0 fuel more16 l17 s18 t19 n20 ok21 want22 many23 fine24 u25 one26 last27 may28 c29 two30 confluent31 can32 = some r) : TW Try.prog B0 (I0 more16 l17 s18 t19 n20 ok21 want22 many23 fine24 u25 one26 last27 may28 c29 two30 confluent31 can32).sl.st (Q0 more16 l17 s18 t19 n20 ok21 want22 many23 fine24 u25 one26 last27 may28 c29 two30 confluent31 can32 r) := by
  unfold p0 at h
  rcases cond_cases h with ⟨h33, h⟩ | ⟨h33, h⟩
  · 
    obtain rfl := Option.some.inj h
    exact runAt_S (Q := Q0 more16 l17 s18 t19 n20 ok21 want22 many23 fine24 u25 one26 last27 may28 c29 two30 confluent31 can32 _) (n := 100000) (c := (.code B0)) (K := []) (s := (I0 more16 l17 s18 t19 n20 ok21 want22 many23 fine24 u25 one26 last27 may28 c29 two30 confluent31 can32).sl) (e := .normal) (t := J0_0 more16 l17 s18 t19 n20 ok21 want22 many23 fine24 u25 one26 last27 may28 c29 two30 confluent31 can32 true) (l := [(0, 0)])
      (hs := [hA, .skip, .g (.env 85 (C.v (vB true)))])
      (ps := [C.v (vB (ok21 != fine24)) = C.v (vB true), ((vS (eI .u8) more16) : V) = (vS (eI .u8) more16), 0 = 0, l17.length = l17.length, Value.string s18 = Value.string s18, Value.string t19 = Value.string t19, (n20 : Int) = n20, (ok21 : Bool) = ok21, Value.string u25 = Value.string u25, (one26 : Bool) = one26, (c29 : Bool) = c29, (two30 : Bool) = two30, (true : Bool) = true, (own (cs eT174 l17)) = (cs eT174 l17).map C.own])
      (by kernel_rfl) ⟨vbB h33, rfl, rfl, rfl, rfl, rfl, rfl, rfl, rfl, rfl, rfl, rfl, rfl, rfl, trivial⟩ (fun st hl => ⟨rfl, hl⟩)
  · 
    rcases cond_cases h with ⟨h34, h⟩ | ⟨h34, h⟩
    · 
      obtain rfl := Option.some.inj h
      exact runAt_S (Q := Q0 more16 l17 s18 t19 n20 ok21 want22 many23 fine24 u25 one26 last27 may28 c29 two30 confluent31 can32 _) (n := 100000) (c := (.code B0)) (K := []) (s := (I0 more16 l17 s18 t19 n20 ok21 want22 many23 fine24 u25 one26 last27 may28 c29 two30 confluent31 can32).sl) (e := .normal) (t := J0_0 more16 l17 s18 t19 n20 ok21 want22 many23 fine24 u25 one26 last27 may28 c29 two30 confluent31 can32 true) (l := [(0, 0)])
        (hs := [hA, .skip, .g (.env 85 (C.v (vB false))), hA, .skip, .skip, .g (.env 90 (C.v (vB true)))])
        (ps := [C.v (vB (ok21 != fine24)) = C.v (vB false), C.v (vB (!sEq t19 want22)) = C.v (vB true), ((vS (eI .u8) more16) : V) = (vS (eI .u8) more16), 0 = 0, l17.length = l17.length, Value.string s18 = Value.string s18, Value.string t19 = Value.string t19, (n20 : Int) = n20, (ok21 : Bool) = ok21, Value.string u25 = Value.string u25, (one26 : Bool) = one26, (c29 : Bool) = c29, (two30 : Bool) = two30, (true : Bool) = true, (own (cs eT174 l17)) = (cs eT174 l17).map C.own])
        (by kernel_rfl) ⟨vbB h33, vbB h34, rfl, rfl, rfl, rfl, rfl, rfl, rfl, rfl, rfl, rfl, rfl, rfl, rfl, trivial⟩ (fun st hl => ⟨rfl, hl⟩)
    · 
      rcases cond_cases h with ⟨h35, h⟩ | ⟨h35, h⟩
      · 
        obtain rfl := Option.some.inj h
        exact runAt_S (Q := Q0 more16 l17 s18 t19 n20 ok21 want22 many23 fine24 u25 one26 last27 may28 c29 two30 confluent31 can32 _) (n := 100000) (c := (.code B0)) (K := []) (s := (I0 more16 l17 s18 t19 n20 ok21 want22 many23 fine24 u25 one26 last27 may28 c29 two30 confluent31 can32).sl) (e := .normal) (t := J0_0 more16 l17 s18 t19 n20 ok21 want22 many23 fine24 u25 one26 last27 may28 c29 two30 confluent31 can32 true) (l := [(0, 0)])
          (hs := [hA, .skip, .g (.env 85 (C.v (vB false))), hA, .skip, .skip, .g (.env 90 (C.v (vB false))), hA, .skip, .skip, .g (.env 95 (C.v (vB true)))])
          (ps := [C.v (vB (ok21 != fine24)) = C.v (vB false), C.v (vB (!sEq t19 want22)) = C.v (vB false), C.v (vB (!decide (n20 = many23))) = C.v (vB true), ((vS (eI .u8) more16) : V) = (vS (eI .u8) more16), 0 = 0, l17.length = l17.length, Value.string s18 = Value.string s18, Value.string t19 = Value.string t19, (n20 : Int) = n20, (ok21 : Bool) = ok21, Value.string u25 = Value.string u25, (one26 : Bool) = one26, (c29 : Bool) = c29, (two30 : Bool) = two30, (true : Bool) = true, (own (cs eT174 l17)) = (cs eT174 l17).map C.own])
          (by kernel_rfl) ⟨vbB h33, vbB h34, vbB h35, rfl, rfl, rfl, rfl, rfl, rfl, rfl, rfl, rfl, rfl, rfl, rfl, rfl, trivial⟩ (fun st hl => ⟨rfl, hl⟩)
      · 
        rcases cond_cases h with ⟨h36, h⟩ | ⟨h36, h⟩
        · 
          obtain rfl := Option.some.inj h
          exact runAt_S (Q := Q0 more16 l17 s18 t19 n20 ok21 want22 many23 fine24 u25 one26 last27 may28 c29 two30 confluent31 can32 _) (n := 100000) (c := (.code B0)) (K := []) (s := (I0 more16 l17 s18 t19 n20 ok21 want22 many23 fine24 u25 one26 last27 may28 c29 two30 confluent31 can32).sl) (e := .normal) (t := J0_0 more16 l17 s18 t19 n20 ok21 want22 many23 fine24 u25 one26 last27 may28 c29 two30 confluent31 can32 true) (l := [(0, 0)])
            (hs := [hA, .skip, .g (.env 85 (C.v (vB false))), hA, .skip, .skip, .g (.env 90 (C.v (vB false))), hA, .skip, .skip, .g (.env 95 (C.v (vB false))), hA, .skip, .skip, .g (.env 100 (C.v (vB true)))])
            (ps := [C.v (vB (ok21 != fine24)) = C.v (vB false), C.v (vB (!sEq t19 want22)) = C.v (vB false), C.v (vB (!decide (n20 = many23))) = C.v (vB false), C.v (vB (one26 != may28)) = C.v (vB true), ((vS (eI .u8) more16) : V) = (vS (eI .u8) more16), 0 = 0, l17.length = l17.length, Value.string s18 = Value.string s18, Value.string t19 = Value.string t19, (n20 : Int) = n20, (ok21 : Bool) = ok21, Value.string u25 = Value.string u25, (one26 : Bool) = one26, (c29 : Bool) = c29, (two30 : Bool) = two30, (true : Bool) = true, (own (cs eT174 l17)) = (cs eT174 l17).map C.own])
            (by kernel_rfl) ⟨vbB h33, vbB h34, vbB h35, vbB h36, rfl, rfl, rfl, rfl, rfl, rfl, rfl, rfl, rfl, rfl, rfl, rfl, rfl, trivial⟩ (fun st hl => ⟨rfl, hl⟩)
        · 
          rcases cond_cases h with ⟨h37, h⟩ | ⟨h37, h⟩
          · 
            obtain rfl := Option.some.inj h
            exact runAt_S (Q := Q0 more16 l17 s18 t19 n20 ok21 want22 many23 fine24 u25 one26 last27 may28 c29 two30 confluent31 can32 _) (n := 100000) (c := (.code B0)) (K := []) (s := (I0 more16 l17 s18 t19 n20 ok21 want22 many23 fine24 u25 one26 last27 may28 c29 two30 confluent31 can32).sl) (e := .normal) (t := J0_0 more16 l17 s18 t19 n20 ok21 want22 many23 fine24 u25 one26 last27 may28 c29 two30 confluent31 can32 true) (l := [(0, 0)])
              (hs := [hA, .skip, .g (.env 85 (C.v (vB false))), hA, .skip, .skip, .g (.env 90 (C.v (vB false))), hA, .skip, .skip, .g (.env 95 (C.v (vB false))), hA, .skip, .skip, .g (.env 100 (C.v (vB false))), hA, .skip, .skip, .g (.env 105 (C.v (vB true)))])
              (ps := [C.v (vB (ok21 != fine24)) = C.v (vB false), C.v (vB (!sEq t19 want22)) = C.v (vB false), C.v (vB (!decide (n20 = many23))) = C.v (vB false), C.v (vB (one26 != may28)) = C.v (vB false), C.v (vB (!sEq u25 last27)) = C.v (vB true), ((vS (eI .u8) more16) : V) = (vS (eI .u8) more16), 0 = 0, l17.length = l17.length, Value.string s18 = Value.string s18, Value.string t19 = Value.string t19, (n20 : Int) = n20, (ok21 : Bool) = ok21, Value.string u25 = Value.string u25, (one26 : Bool) = one26, (c29 : Bool) = c29, (two30 : Bool) = two30, (true : Bool) = true, (own (cs eT174 l17)) = (cs eT174 l17).map C.own])
              (by kernel_rfl) ⟨vbB h33, vbB h34, vbB h35, vbB h36, vbB h37, rfl, rfl, rfl, rfl, rfl, rfl, rfl, rfl, rfl, rfl, rfl, rfl, rfl, trivial⟩ (fun st hl => ⟨rfl, hl⟩)
          · 
            rcases cond_cases h with ⟨h38, h⟩ | ⟨h38, h⟩
            · 
              obtain rfl := Option.some.inj h
              exact runAt_S (Q := Q0 more16 l17 s18 t19 n20 ok21 want22 many23 fine24 u25 one26 last27 may28 c29 two30 confluent31 can32 _) (n := 100000) (c := (.code B0)) (K := []) (s := (I0 more16 l17 s18 t19 n20 ok21 want22 many23 fine24 u25 one26 last27 may28 c29 two30 confluent31 can32).sl) (e := .normal) (t := J0_0 more16 l17 s18 t19 n20 ok21 want22 many23 fine24 u25 one26 last27 may28 c29 two30 confluent31 can32 true) (l := [(0, 0)])
                (hs := [hA, .skip, .g (.env 85 (C.v (vB false))), hA, .skip, .skip, .g (.env 90 (C.v (vB false))), hA, .skip, .skip, .g (.env 95 (C.v (vB false))), hA, .skip, .skip, .g (.env 100 (C.v (vB false))), hA, .skip, .skip, .g (.env 105 (C.v (vB false))), hA, .skip, .skip, .g (.env 110 (C.v (vB true)))])
                (ps := [C.v (vB (ok21 != fine24)) = C.v (vB false), C.v (vB (!sEq t19 want22)) = C.v (vB false), C.v (vB (!decide (n20 = many23))) = C.v (vB false), C.v (vB (one26 != may28)) = C.v (vB false), C.v (vB (!sEq u25 last27)) = C.v (vB false), C.v (vB (two30 != can32)) = C.v (vB true), ((vS (eI .u8) more16) : V) = (vS (eI .u8) more16), 0 = 0, l17.length = l17.length, Value.string s18 = Value.string s18, Value.string t19 = Value.string t19, (n20 : Int) = n20, (ok21 : Bool) = ok21, Value.string u25 = Value.string u25, (one26 : Bool) = one26, (c29 : Bool) = c29, (two30 : Bool) = two30, (true : Bool) = true, (own (cs eT174 l17)) = (cs eT174 l17).map C.own])
                (by kernel_rfl) ⟨vbB h33, vbB h34, vbB h35, vbB h36, vbB h37, vbB h38, rfl, rfl, rfl, rfl, rfl, rfl, rfl, rfl, rfl, rfl, rfl, rfl, rfl, trivial⟩ (fun st hl => ⟨rfl, hl⟩)
            · 
              obtain rfl := Option.some.inj h
              exact runAt_S (Q := Q0 more16 l17 s18 t19 n20 ok21 want22 many23 fine24 u25 one26 last27 may28 c29 two30 confluent31 can32 _) (n := 100000) (c := (.code B0)) (K := []) (s := (I0 more16 l17 s18 t19 n20 ok21 want22 many23 fine24 u25 one26 last27 may28 c29 two30 confluent31 can32).sl) (e := .normal) (t := J0_0 more16 l17 s18 t19 n20 ok21 want22 many23 fine24 u25 one26 last27 may28 c29 two30 confluent31 can32 (c29 != confluent31)) (l := [(0, 0)])
                (hs := [hA, .skip, .g (.env 85 (C.v (vB false))), hA, .skip, .skip, .g (.env 90 (C.v (vB false))), hA, .skip, .skip, .g (.env 95 (C.v (vB false))), hA, .skip, .skip, .g (.env 100 (C.v (vB false))), hA, .skip, .skip, .g (.env 105 (C.v (vB false))), hA, .skip, .skip, .g (.env 110 (C.v (vB false))), hA])
                (ps := [C.v (vB (ok21 != fine24)) = C.v (vB false), C.v (vB (!sEq t19 want22)) = C.v (vB false), C.v (vB (!decide (n20 = many23))) = C.v (vB false), C.v (vB (one26 != may28)) = C.v (vB false), C.v (vB (!sEq u25 last27)) = C.v (vB false), C.v (vB (two30 != can32)) = C.v (vB false), ((vS (eI .u8) more16) : V) = (vS (eI .u8) more16), 0 = 0, l17.length = l17.length, Value.string s18 = Value.string s18, Value.string t19 = Value.string t19, (n20 : Int) = n20, (ok21 : Bool) = ok21, Value.string u25 = Value.string u25, (one26 : Bool) = one26, (c29 : Bool) = c29, (two30 : Bool) = two30, (c29 != confluent31 : Bool) = (c29 != confluent31), (own (cs eT174 l17)) = (cs eT174 l17).map C.own])
                (by kernel_rfl) ⟨vbB h33, vbB h34, vbB h35, vbB h36, vbB h37, vbB h38, rfl, rfl, rfl, rfl, rfl, rfl, rfl, rfl, rfl, rfl, rfl, rfl, rfl, trivial⟩ (fun st hl => ⟨rfl, hl⟩)
def I2 (more55 : List Int) (l56 : List T174) (s57 : ByteArray) (t58 : ByteArray) (n59 : Int) (u60 : ByteArray) (one61 : Bool) (c62 : Bool) (two63 : Bool) (left64 : List ByteArray) (three65 : Bool) : TL := ⟨216, [C.dead, C.dead], [(1, C.v (vS (eI .u8) more55)), (5, C.sr 0 0 2 l56.length), (6, C.v (vT s57)), (7, C.v (vT t58)), (8, C.v (vI .i64 n59)), (13, C.v (vT u60)), (14, C.v (vB one61)), (17, C.v (vB c62)), (18, C.v (vB two63)), (21, C.sr 1 0 1 left64.length), (22, C.v (vB three65))], [(0, (cs eT174 l56)), (1, (cs eT left64))], []⟩
def J2_0 (more55 : List Int) (l56 : List T174) (s57 : ByteArray) (t58 : ByteArray) (n59 : Int) (u60 : ByteArray) (one61 : Bool) (c62 : Bool) (two63 : Bool) (left64 : List ByteArray) (three65 : Bool) (o : Bool) : TL := ⟨216, [C.dead, C.dead], [(1, C.v (vS (eI .u8) more55)), (5, C.sr 0 0 2 l56.length), (6, C.v (vT s57)), (7, C.v (vT t58)), (13, C.v (vT u60)), (14, C.v (vB one61)), (17, C.v (vB c62)), (18, C.v (vB two63)), (146, C.v (vB o))], [(0, (cs eT174 l56))], []⟩
def Q2 (more55 : List Int) (l56 : List T174) (s57 : ByteArray) (t58 : ByteArray) (n59 : Int) (u60 : ByteArray) (one61 : Bool) (c62 : Bool) (two63 : Bool) (left64 : List ByteArray) (three65 : Bool) (r : Bool) (e : Exit) (st : St) : Prop := (fun o => e = .normal ∧ Le st (J2_0 more55 l56 s57 t58 n59 u60 one61 c62 two63 left64 three65 o).sl.st) r
def p2 (fuel : Nat) (more55 : List Int) (l56 : List T174) (s57 : ByteArray) (t58 : ByteArray) (n59 : Int) (u60 : ByteArray) (one61 : Bool) (c62 : Bool) (two63 : Bool) (left64 : List ByteArray) (three65 : Bool) : Option Bool :=
  cond (!three65)
  (some true)
  (cond (decide ((left64.length : Int) > 0))
    (some true)
    (cond ((decide (n59 = 0)) != (sEq t58 s57))
      (some true)
      (cond (decide (n59 > 0))
        ((F22.fn fuel t58 s57).bind fun r70 =>
          some (!r70))
        (some false))))
theorem p2_c (fuel : Nat) (more55 : List Int) (l56 : List T174) (s57 : ByteArray) (t58 : ByteArray) (n59 : Int) (u60 : ByteArray) (one61 : Bool) (c62 : Bool) (two63 : Bool) (left64 : List ByteArray) (three65 : Bool) (r : Bool) (h : p2 fuel more55 l56 s57 t58 n59 u60 one61 c62 two63 left64 three65 = some r) : TW Try.prog B2 (I2 more55 l56 s57 t58 n59 u60 one61 c62 two63 left64 three65).sl.st (Q2 more55 l56 s57 t58 n59 u60 one61 c62 two63 left64 three65 r) := by
  unfold p2 at h
  rcases cond_cases h with ⟨h66, h⟩ | ⟨h66, h⟩
  · 
    obtain rfl := Option.some.inj h
    exact runAt_S (Q := Q2 more55 l56 s57 t58 n59 u60 one61 c62 two63 left64 three65 _) (n := 100000) (c := (.code B2)) (K := []) (s := (I2 more55 l56 s57 t58 n59 u60 one61 c62 two63 left64 three65).sl) (e := .normal) (t := J2_0 more55 l56 s57 t58 n59 u60 one61 c62 two63 left64 three65 true) (l := [(0, 0)])
      (hs := [hA, .skip, .g (.env 124 (C.v (vB true)))])
      (ps := [C.v (vB (!three65)) = C.v (vB true), ((vS (eI .u8) more55) : V) = (vS (eI .u8) more55), 0 = 0, l56.length = l56.length, Value.string s57 = Value.string s57, Value.string t58 = Value.string t58, Value.string u60 = Value.string u60, (one61 : Bool) = one61, (c62 : Bool) = c62, (two63 : Bool) = two63, (true : Bool) = true, (own (cs eT174 l56)) = (cs eT174 l56).map C.own])
      (by kernel_rfl) ⟨vbB h66, rfl, rfl, rfl, rfl, rfl, rfl, rfl, rfl, rfl, rfl, rfl, trivial⟩ (fun st hl => ⟨rfl, hl⟩)
  · 
    rcases cond_cases h with ⟨h67, h⟩ | ⟨h67, h⟩
    · 
      obtain rfl := Option.some.inj h
      exact runAt_S (Q := Q2 more55 l56 s57 t58 n59 u60 one61 c62 two63 left64 three65 _) (n := 100000) (c := (.code B2)) (K := []) (s := (I2 more55 l56 s57 t58 n59 u60 one61 c62 two63 left64 three65).sl) (e := .normal) (t := J2_0 more55 l56 s57 t58 n59 u60 one61 c62 two63 left64 three65 true) (l := [(0, 0)])
        (hs := [hA, .skip, .g (.env 124 (C.v (vB false))), hA, hA, .skip, .skip, .g (.env 129 (C.v (vB true)))])
        (ps := [C.v (vB (!three65)) = C.v (vB false), C.v (vB (decide ((left64.length : Int) > 0))) = C.v (vB true), ((vS (eI .u8) more55) : V) = (vS (eI .u8) more55), 0 = 0, l56.length = l56.length, Value.string s57 = Value.string s57, Value.string t58 = Value.string t58, Value.string u60 = Value.string u60, (one61 : Bool) = one61, (c62 : Bool) = c62, (two63 : Bool) = two63, (true : Bool) = true, (own (cs eT174 l56)) = (cs eT174 l56).map C.own])
        (by kernel_rfl) ⟨vbB h66, vbB h67, rfl, rfl, rfl, rfl, rfl, rfl, rfl, rfl, rfl, rfl, rfl, trivial⟩ (fun st hl => ⟨rfl, hl⟩)
    · 
      rcases cond_cases h with ⟨h68, h⟩ | ⟨h68, h⟩
      · 
        obtain rfl := Option.some.inj h
        exact runAt_S (Q := Q2 more55 l56 s57 t58 n59 u60 one61 c62 two63 left64 three65 _) (n := 100000) (c := (.code B2)) (K := []) (s := (I2 more55 l56 s57 t58 n59 u60 one61 c62 two63 left64 three65).sl) (e := .normal) (t := J2_0 more55 l56 s57 t58 n59 u60 one61 c62 two63 left64 three65 true) (l := [(0, 0)])
          (hs := [hA, .skip, .g (.env 124 (C.v (vB false))), hA, hA, .skip, .skip, .g (.env 129 (C.v (vB false))), hA, hA, hA, .skip, .skip, .g (.env 137 (C.v (vB true)))])
          (ps := [C.v (vB (!three65)) = C.v (vB false), C.v (vB (decide ((left64.length : Int) > 0))) = C.v (vB false), C.v (vB ((decide (n59 = 0)) != (sEq t58 s57))) = C.v (vB true), ((vS (eI .u8) more55) : V) = (vS (eI .u8) more55), 0 = 0, l56.length = l56.length, Value.string s57 = Value.string s57, Value.string t58 = Value.string t58, Value.string u60 = Value.string u60, (one61 : Bool) = one61, (c62 : Bool) = c62, (two63 : Bool) = two63, (true : Bool) = true, (own (cs eT174 l56)) = (cs eT174 l56).map C.own])
          (by kernel_rfl) ⟨vbB h66, vbB h67, vbB h68, rfl, rfl, rfl, rfl, rfl, rfl, rfl, rfl, rfl, rfl, rfl, trivial⟩ (fun st hl => ⟨rfl, hl⟩)
      · 
        rcases cond_cases h with ⟨h69, h⟩ | ⟨h69, h⟩
        · 
          obtain ⟨r70, h71, h⟩ := bind_cases h
          obtain rfl := Option.some.inj h
          exact runAt_S (Q := Q2 more55 l56 s57 t58 n59 u60 one61 c62 two63 left64 three65 _) (n := 100000) (c := (.code B2)) (K := []) (s := (I2 more55 l56 s57 t58 n59 u60 one61 c62 two63 left64 three65).sl) (e := .normal) (t := J2_0 more55 l56 s57 t58 n59 u60 one61 c62 two63 left64 three65 (!r70)) (l := [(0, 0)])
            (hs := [hA, .skip, .g (.env 124 (C.v (vB false))), hA, hA, .skip, .skip, .g (.env 129 (C.v (vB false))), hA, hA, hA, .skip, .skip, .g (.env 137 (C.v (vB false))), hA, .skip, .g (.env 140 (C.v (vB true))), .call ⟨[.ro, .ro], 9, [], true, [], (vB r70), [], 2⟩, hA])
            (ps := [C.v (vB (!three65)) = C.v (vB false), C.v (vB (decide ((left64.length : Int) > 0))) = C.v (vB false), C.v (vB ((decide (n59 = 0)) != (sEq t58 s57))) = C.v (vB false), C.v (vB (decide (n59 > 0))) = C.v (vB true), CallOK Try.prog 22 [.ro (vT t58), .ro (vT s57)] [] (vB r70), ((vS (eI .u8) more55) : V) = (vS (eI .u8) more55), 0 = 0, l56.length = l56.length, Value.string s57 = Value.string s57, Value.string t58 = Value.string t58, Value.string u60 = Value.string u60, (one61 : Bool) = one61, (c62 : Bool) = c62, (two63 : Bool) = two63, (!r70 : Bool) = (!r70), (own (cs eT174 l56)) = (cs eT174 l56).map C.own])
            (by kernel_rfl) ⟨vbB h66, vbB h67, vbB h68, vbB h69, F22.fn_c fuel t58 s57 _ h71, rfl, rfl, rfl, rfl, rfl, rfl, rfl, rfl, rfl, rfl, rfl, trivial⟩ (fun st hl => ⟨rfl, hl⟩)
        · 
          obtain rfl := Option.some.inj h
          exact runAt_S (Q := Q2 more55 l56 s57 t58 n59 u60 one61 c62 two63 left64 three65 _) (n := 100000) (c := (.code B2)) (K := []) (s := (I2 more55 l56 s57 t58 n59 u60 one61 c62 two63 left64 three65).sl) (e := .normal) (t := J2_0 more55 l56 s57 t58 n59 u60 one61 c62 two63 left64 three65 false) (l := [(0, 0)])
            (hs := [hA, .skip, .g (.env 124 (C.v (vB false))), hA, hA, .skip, .skip, .g (.env 129 (C.v (vB false))), hA, hA, hA, .skip, .skip, .g (.env 137 (C.v (vB false))), hA, .skip, .g (.env 140 (C.v (vB false)))])
            (ps := [C.v (vB (!three65)) = C.v (vB false), C.v (vB (decide ((left64.length : Int) > 0))) = C.v (vB false), C.v (vB ((decide (n59 = 0)) != (sEq t58 s57))) = C.v (vB false), C.v (vB (decide (n59 > 0))) = C.v (vB false), ((vS (eI .u8) more55) : V) = (vS (eI .u8) more55), 0 = 0, l56.length = l56.length, Value.string s57 = Value.string s57, Value.string t58 = Value.string t58, Value.string u60 = Value.string u60, (one61 : Bool) = one61, (c62 : Bool) = c62, (two63 : Bool) = two63, (false : Bool) = false, (own (cs eT174 l56)) = (cs eT174 l56).map C.own])
            (by kernel_rfl) ⟨vbB h66, vbB h67, vbB h68, vbB h69, rfl, rfl, rfl, rfl, rfl, rfl, rfl, rfl, rfl, rfl, rfl, trivial⟩ (fun st hl => ⟨rfl, hl⟩)
def I3 (more75 : List Int) (l76 : List T174) (s77 : ByteArray) (t78 : ByteArray) (u79 : ByteArray) (one80 : Bool) (c81 : Bool) (two82 : Bool) : TL := ⟨216, [C.dead, C.dead], [(1, C.v (vS (eI .u8) more75)), (5, C.sr 0 0 2 l76.length), (6, C.v (vT s77)), (7, C.v (vT t78)), (13, C.v (vT u79)), (14, C.v (vB one80)), (17, C.v (vB c81)), (18, C.v (vB two82))], [(0, (cs eT174 l76))], []⟩
def J3_0 (more75 : List Int) (l76 : List T174) (s77 : ByteArray) (t78 : ByteArray) (u79 : ByteArray) (one80 : Bool) (c81 : Bool) (two82 : Bool) (o : Bool) : TL := ⟨216, [C.dead, C.dead], [(1, C.v (vS (eI .u8) more75)), (5, C.sr 0 0 2 l76.length), (6, C.v (vT s77)), (7, C.v (vT t78)), (13, C.v (vT u79)), (14, C.v (vB one80)), (150, C.v (vB o))], [(0, (cs eT174 l76))], []⟩
def Q3 (more75 : List Int) (l76 : List T174) (s77 : ByteArray) (t78 : ByteArray) (u79 : ByteArray) (one80 : Bool) (c81 : Bool) (two82 : Bool) (r : Bool) (e : Exit) (st : St) : Prop := (fun o => e = .normal ∧ Le st (J3_0 more75 l76 s77 t78 u79 one80 c81 two82 o).sl.st) r
def p3 (fuel : Nat) (more75 : List Int) (l76 : List T174) (s77 : ByteArray) (t78 : ByteArray) (u79 : ByteArray) (one80 : Bool) (c81 : Bool) (two82 : Bool) : Option Bool :=
  cond (two82)
  (some c81)
  (some false)
theorem p3_c (fuel : Nat) (more75 : List Int) (l76 : List T174) (s77 : ByteArray) (t78 : ByteArray) (u79 : ByteArray) (one80 : Bool) (c81 : Bool) (two82 : Bool) (r : Bool) (h : p3 fuel more75 l76 s77 t78 u79 one80 c81 two82 = some r) : TW Try.prog B3 (I3 more75 l76 s77 t78 u79 one80 c81 two82).sl.st (Q3 more75 l76 s77 t78 u79 one80 c81 two82 r) := by
  unfold p3 at h
  rcases cond_cases h with ⟨h83, h⟩ | ⟨h83, h⟩
  · 
    obtain rfl := Option.some.inj h
    exact runAt_S (Q := Q3 more75 l76 s77 t78 u79 one80 c81 two82 _) (n := 100000) (c := (.code B3)) (K := []) (s := (I3 more75 l76 s77 t78 u79 one80 c81 two82).sl) (e := .normal) (t := J3_0 more75 l76 s77 t78 u79 one80 c81 two82 c81) (l := [(0, 0)])
      (hs := [.skip, .skip, .g (.env 148 (C.v (vB true)))])
      (ps := [C.v (vB two82) = C.v (vB true), ((vS (eI .u8) more75) : V) = (vS (eI .u8) more75), 0 = 0, l76.length = l76.length, Value.string s77 = Value.string s77, Value.string t78 = Value.string t78, Value.string u79 = Value.string u79, (one80 : Bool) = one80, (c81 : Bool) = c81, (own (cs eT174 l76)) = (cs eT174 l76).map C.own])
      (by kernel_rfl) ⟨vbB h83, rfl, rfl, rfl, rfl, rfl, rfl, rfl, rfl, rfl, trivial⟩ (fun st hl => ⟨rfl, hl⟩)
  · 
    obtain rfl := Option.some.inj h
    exact runAt_S (Q := Q3 more75 l76 s77 t78 u79 one80 c81 two82 _) (n := 100000) (c := (.code B3)) (K := []) (s := (I3 more75 l76 s77 t78 u79 one80 c81 two82).sl) (e := .normal) (t := J3_0 more75 l76 s77 t78 u79 one80 c81 two82 false) (l := [(0, 0)])
      (hs := [.skip, .skip, .g (.env 148 (C.v (vB false)))])
      (ps := [C.v (vB two82) = C.v (vB false), ((vS (eI .u8) more75) : V) = (vS (eI .u8) more75), 0 = 0, l76.length = l76.length, Value.string s77 = Value.string s77, Value.string t78 = Value.string t78, Value.string u79 = Value.string u79, (one80 : Bool) = one80, (false : Bool) = false, (own (cs eT174 l76)) = (cs eT174 l76).map C.own])
      (by kernel_rfl) ⟨vbB h83, rfl, rfl, rfl, rfl, rfl, rfl, rfl, rfl, rfl, trivial⟩ (fun st hl => ⟨rfl, hl⟩)
def I4 (more87 : List Int) (l88 : List T174) (s89 : ByteArray) (t90 : ByteArray) (u91 : ByteArray) (one92 : Bool) : TL := ⟨216, [C.dead, C.dead], [(1, C.v (vS (eI .u8) more87)), (5, C.sr 0 0 2 l88.length), (6, C.v (vT s89)), (7, C.v (vT t90)), (13, C.v (vT u91)), (14, C.v (vB one92))], [(0, (cs eT174 l88))], []⟩
def J4_0 (more87 : List Int) (l88 : List T174) (s89 : ByteArray) (t90 : ByteArray) (u91 : ByteArray) (one92 : Bool) (o : Bool) : TL := ⟨216, [C.dead, C.dead], [(1, C.v (vS (eI .u8) more87)), (5, C.sr 0 0 2 l88.length), (6, C.v (vT s89)), (7, C.v (vT t90)), (156, C.v (vB o))], [(0, (cs eT174 l88))], []⟩
def Q4 (more87 : List Int) (l88 : List T174) (s89 : ByteArray) (t90 : ByteArray) (u91 : ByteArray) (one92 : Bool) (r : Bool) (e : Exit) (st : St) : Prop := (fun o => e = .normal ∧ Le st (J4_0 more87 l88 s89 t90 u91 one92 o).sl.st) r
def p4 (fuel : Nat) (more87 : List Int) (l88 : List T174) (s89 : ByteArray) (t90 : ByteArray) (u91 : ByteArray) (one92 : Bool) : Option Bool :=
  cond (one92)
  (some (!sEq u91 t90))
  (some false)
theorem p4_c (fuel : Nat) (more87 : List Int) (l88 : List T174) (s89 : ByteArray) (t90 : ByteArray) (u91 : ByteArray) (one92 : Bool) (r : Bool) (h : p4 fuel more87 l88 s89 t90 u91 one92 = some r) : TW Try.prog B4 (I4 more87 l88 s89 t90 u91 one92).sl.st (Q4 more87 l88 s89 t90 u91 one92 r) := by
  unfold p4 at h
  rcases cond_cases h with ⟨h93, h⟩ | ⟨h93, h⟩
  · 
    obtain rfl := Option.some.inj h
    exact runAt_S (Q := Q4 more87 l88 s89 t90 u91 one92 _) (n := 100000) (c := (.code B4)) (K := []) (s := (I4 more87 l88 s89 t90 u91 one92).sl) (e := .normal) (t := J4_0 more87 l88 s89 t90 u91 one92 (!sEq u91 t90)) (l := [(0, 0)])
      (hs := [.skip, .skip, .g (.env 152 (C.v (vB true))), hA])
      (ps := [C.v (vB one92) = C.v (vB true), ((vS (eI .u8) more87) : V) = (vS (eI .u8) more87), 0 = 0, l88.length = l88.length, Value.string s89 = Value.string s89, Value.string t90 = Value.string t90, (!sEq u91 t90 : Bool) = (!sEq u91 t90), (own (cs eT174 l88)) = (cs eT174 l88).map C.own])
      (by kernel_rfl) ⟨vbB h93, rfl, rfl, rfl, rfl, rfl, rfl, rfl, trivial⟩ (fun st hl => ⟨rfl, hl⟩)
  · 
    obtain rfl := Option.some.inj h
    exact runAt_S (Q := Q4 more87 l88 s89 t90 u91 one92 _) (n := 100000) (c := (.code B4)) (K := []) (s := (I4 more87 l88 s89 t90 u91 one92).sl) (e := .normal) (t := J4_0 more87 l88 s89 t90 u91 one92 false) (l := [(0, 0)])
      (hs := [.skip, .skip, .g (.env 152 (C.v (vB false)))])
      (ps := [C.v (vB one92) = C.v (vB false), ((vS (eI .u8) more87) : V) = (vS (eI .u8) more87), 0 = 0, l88.length = l88.length, Value.string s89 = Value.string s89, Value.string t90 = Value.string t90, (false : Bool) = false, (own (cs eT174 l88)) = (cs eT174 l88).map C.own])
      (by kernel_rfl) ⟨vbB h93, rfl, rfl, rfl, rfl, rfl, rfl, rfl, trivial⟩ (fun st hl => ⟨rfl, hl⟩)
def I1 (more42 : List Int) (l43 : List T174) (s44 : ByteArray) (t45 : ByteArray) (n46 : Int) (u47 : ByteArray) (one48 : Bool) (c49 : Bool) (two50 : Bool) (v51 : Bool) : TL := ⟨216, [C.dead, C.dead], [(1, C.v (vS (eI .u8) more42)), (5, C.sr 0 0 2 l43.length), (6, C.v (vT s44)), (7, C.v (vT t45)), (8, C.v (vI .i64 n46)), (13, C.v (vT u47)), (14, C.v (vB one48)), (17, C.v (vB c49)), (18, C.v (vB two50)), (115, C.v (vB v51))], [(0, (cs eT174 l43))], []⟩
def J1_0 (more42 : List Int) (l43 : List T174) (s44 : ByteArray) (t45 : ByteArray) (n46 : Int) (u47 : ByteArray) (one48 : Bool) (c49 : Bool) (two50 : Bool) (v51 : Bool) (o : Unit) : TL := ⟨216, [C.dead, C.dead], [(4, C.v (vB false))], [], []⟩
def J1_1 (more42 : List Int) (l43 : List T174) (s44 : ByteArray) (t45 : ByteArray) (n46 : Int) (u47 : ByteArray) (one48 : Bool) (c49 : Bool) (two50 : Bool) (v51 : Bool) (o : Unit) : TL := ⟨216, [C.dead, C.dead], [(1, C.v (vS (eI .u8) more42))], [], []⟩
def Q1 (more42 : List Int) (l43 : List T174) (s44 : ByteArray) (t45 : ByteArray) (n46 : Int) (u47 : ByteArray) (one48 : Bool) (c49 : Bool) (two50 : Bool) (v51 : Bool) (r : Unit ⊕ Unit) (e : Exit) (st : St) : Prop := (Sum.elim (fun o => e = .ret ∧ Le st (J1_0 more42 l43 s44 t45 n46 u47 one48 c49 two50 v51 o).sl.st) (fun o => e = .normal ∧ Le st (J1_1 more42 l43 s44 t45 n46 u47 one48 c49 two50 v51 o).sl.st)) r
def p1 (fuel : Nat) (more42 : List Int) (l43 : List T174) (s44 : ByteArray) (t45 : ByteArray) (n46 : Int) (u47 : ByteArray) (one48 : Bool) (c49 : Bool) (two50 : Bool) (v51 : Bool) : Option (Unit ⊕ Unit) :=
  cond (v51)
  ((F21.fn fuel l43 t45).bind fun r53 =>
    (p2 fuel more42 l43 s44 t45 n46 u47 one48 c49 two50 r53.1 r53.2).bind fun r72 =>
    cond (r72)
    (some (.inl ()))
    ((p3 fuel more42 l43 s44 t45 u47 one48 c49 two50).bind fun r84 =>
      cond (r84)
      ((p4 fuel more42 l43 s44 t45 u47 one48).bind fun r94 =>
        cond (r94)
        (some (.inl ()))
        ((F21.fn fuel l43 s44).bind fun r97 =>
          cond (!r97.2)
          (some (.inl ()))
          (cond (decide ((r97.1.length : Int) > 0))
            ((F23.fn fuel more42).bind fun r101 =>
              (chk ((r97.1.length : Int) ≠ 0)).bind fun _ =>
              (idx (Int.tmod r101 (r97.1.length : Int)) r97.1.length).bind fun j104 =>
              (F15.fn fuel l43 (r97.1.getD j104 ByteArray.empty)).bind fun r106 =>
              cond (r106.2.2)
              (cond (!sEq r106.1 t45)
                (some (.inl ()))
                (some (.inr ())))
              (some (.inr ())))
            (some (.inr ())))))
      (some (.inr ()))))
  (some (.inr ()))
theorem p1_c (fuel : Nat) (more42 : List Int) (l43 : List T174) (s44 : ByteArray) (t45 : ByteArray) (n46 : Int) (u47 : ByteArray) (one48 : Bool) (c49 : Bool) (two50 : Bool) (v51 : Bool) (r : Unit ⊕ Unit) (h : p1 fuel more42 l43 s44 t45 n46 u47 one48 c49 two50 v51 = some r) : TW Try.prog B1 (I1 more42 l43 s44 t45 n46 u47 one48 c49 two50 v51).sl.st (Q1 more42 l43 s44 t45 n46 u47 one48 c49 two50 v51 r) := by
  unfold p1 at h
  rcases cond_cases h with ⟨h52, h⟩ | ⟨h52, h⟩
  · 
    obtain ⟨r53, h54, h⟩ := bind_cases h
    obtain ⟨r72, h73, h⟩ := bind_cases h
    refine runTo_S (n := 6) (c := (.code B1)) (K := []) (s := (I1 more42 l43 s44 t45 n46 u47 one48 c49 two50 v51).sl) (b := (.code B2)) (K1 := K2) (t := I2 more42 l43 s44 t45 n46 u47 one48 c49 two50 r53.1 r53.2) (l := [(0, 0), (1, 1)])
      (hs := [.g (.env 115 (C.v (vB true))), .call ⟨[.ro, .ro], 9, [(0, (cs eT174 l43), (cs eT174 l43))], false, [], (.tp [(vS eT r53.1), (vB r53.2)]), [], 1⟩])
      (ps := [C.v (vB v51) = C.v (vB true), CallOK Try.prog 21 [.ro (.sl 2 l43.length (cs eT174 l43)), .ro (vT t45)] [] (.tp [(vS eT r53.1), (vB r53.2)]), (own (cs eT174 l43)) = (cs eT174 l43).map C.own, 0 + l43.length * 2 ≤ (cs eT174 l43).length, ((cs eT174 l43).drop (0)).take (l43.length * 2) = (cs eT174 l43), (noImL [] && noIm (.tp [(vS eT r53.1), (vB r53.2)])) = true, ((vS (eI .u8) more42) : V) = (vS (eI .u8) more42), 0 = 0, l43.length = l43.length, Value.string s44 = Value.string s44, Value.string t45 = Value.string t45, (n46 : Int) = n46, Value.string u47 = Value.string u47, (one48 : Bool) = one48, (c49 : Bool) = c49, (two50 : Bool) = two50, 0 = 0, r53.1.length = r53.1.length, (r53.2 : Bool) = r53.2, (own (cs eT174 l43)) = (cs eT174 l43).map C.own, (own (cs eT r53.1)) = (cs eT r53.1).map C.own])
      (by kernel_rfl) ⟨vbB h52, F21.fn_c fuel l43 t45 _ h54, rfl, len_all (e := eT174) (rfl), take_cs (e := eT174) (rfl), by simp [noIm, noImL, noImL_cs, NI.noim], rfl, rfl, rfl, rfl, rfl, rfl, rfl, rfl, rfl, rfl, rfl, rfl, rfl, rfl, rfl, trivial⟩ (cut_code ?_)
    refine TW.mono_le (p2_c fuel more42 l43 s44 t45 n46 u47 one48 c49 two50 r53.1 r53.2 _ h73) ?_
    rintro e st hq
    obtain ⟨rfl, hl⟩ := hq
    refine ⟨_, hl, ?_⟩
    rcases cond_cases h with ⟨h74, h⟩ | ⟨h74, h⟩
    · 
      obtain rfl := Option.some.inj h
      exact runAt_S (Q := Q1 more42 l43 s44 t45 n46 u47 one48 c49 two50 v51 _) (n := 100000) (c := (.out .normal)) (K := K2) (s := (J2_0 more42 l43 s44 t45 n46 u47 one48 c49 two50 r53.1 r53.2 r72).sl) (e := .ret) (t := J1_0 more42 l43 s44 t45 n46 u47 one48 c49 two50 v51 ()) (l := [])
        (hs := [.g (.env 146 (C.v (vB true)))])
        (ps := [C.v (vB r72) = C.v (vB true), (false : Bool) = false])
        (by kernel_rfl) ⟨vbB h74, rfl, trivial⟩ (fun st hl => ⟨rfl, hl⟩)
    · 
      obtain ⟨r84, h85, h⟩ := bind_cases h
      refine runTo_S (n := 5) (c := (.out .normal)) (K := K2) (s := (J2_0 more42 l43 s44 t45 n46 u47 one48 c49 two50 r53.1 r53.2 r72).sl) (b := (.code B3)) (K1 := K3) (t := I3 more42 l43 s44 t45 u47 one48 c49 two50) (l := [(0, 0)])
        (hs := [.g (.env 146 (C.v (vB false)))])
        (ps := [C.v (vB r72) = C.v (vB false), ((vS (eI .u8) more42) : V) = (vS (eI .u8) more42), 0 = 0, l43.length = l43.length, Value.string s44 = Value.string s44, Value.string t45 = Value.string t45, Value.string u47 = Value.string u47, (one48 : Bool) = one48, (c49 : Bool) = c49, (two50 : Bool) = two50, (own (cs eT174 l43)) = (cs eT174 l43).map C.own])
        (by kernel_rfl) ⟨vbB h74, rfl, rfl, rfl, rfl, rfl, rfl, rfl, rfl, rfl, rfl, trivial⟩ (cut_code ?_)
      refine TW.mono_le (p3_c fuel more42 l43 s44 t45 u47 one48 c49 two50 _ h85) ?_
      rintro e st hq
      obtain ⟨rfl, hl⟩ := hq
      refine ⟨_, hl, ?_⟩
      rcases cond_cases h with ⟨h86, h⟩ | ⟨h86, h⟩
      · 
        obtain ⟨r94, h95, h⟩ := bind_cases h
        refine runTo_S (n := 4) (c := (.out .normal)) (K := K3) (s := (J3_0 more42 l43 s44 t45 u47 one48 c49 two50 r84).sl) (b := (.code B4)) (K1 := K4) (t := I4 more42 l43 s44 t45 u47 one48) (l := [(0, 0)])
          (hs := [.g (.env 150 (C.v (vB true)))])
          (ps := [C.v (vB r84) = C.v (vB true), ((vS (eI .u8) more42) : V) = (vS (eI .u8) more42), 0 = 0, l43.length = l43.length, Value.string s44 = Value.string s44, Value.string t45 = Value.string t45, Value.string u47 = Value.string u47, (one48 : Bool) = one48, (own (cs eT174 l43)) = (cs eT174 l43).map C.own])
          (by kernel_rfl) ⟨vbB h86, rfl, rfl, rfl, rfl, rfl, rfl, rfl, rfl, trivial⟩ (cut_code ?_)
        refine TW.mono_le (p4_c fuel more42 l43 s44 t45 u47 one48 _ h95) ?_
        rintro e st hq
        obtain ⟨rfl, hl⟩ := hq
        refine ⟨_, hl, ?_⟩
        rcases cond_cases h with ⟨h96, h⟩ | ⟨h96, h⟩
        · 
          obtain rfl := Option.some.inj h
          exact runAt_S (Q := Q1 more42 l43 s44 t45 n46 u47 one48 c49 two50 v51 _) (n := 100000) (c := (.out .normal)) (K := K4) (s := (J4_0 more42 l43 s44 t45 u47 one48 r94).sl) (e := .ret) (t := J1_0 more42 l43 s44 t45 n46 u47 one48 c49 two50 v51 ()) (l := [])
            (hs := [.g (.env 156 (C.v (vB true)))])
            (ps := [C.v (vB r94) = C.v (vB true), (false : Bool) = false])
            (by kernel_rfl) ⟨vbB h96, rfl, trivial⟩ (fun st hl => ⟨rfl, hl⟩)
        · 
          obtain ⟨r97, h98, h⟩ := bind_cases h
          rcases cond_cases h with ⟨h99, h⟩ | ⟨h99, h⟩
          · 
            obtain rfl := Option.some.inj h
            exact runAt_S (Q := Q1 more42 l43 s44 t45 n46 u47 one48 c49 two50 v51 _) (n := 100000) (c := (.out .normal)) (K := K4) (s := (J4_0 more42 l43 s44 t45 u47 one48 r94).sl) (e := .ret) (t := J1_0 more42 l43 s44 t45 n46 u47 one48 c49 two50 v51 ()) (l := [])
              (hs := [.g (.env 156 (C.v (vB false))), .call ⟨[.ro, .ro], 9, [(0, (cs eT174 l43), (cs eT174 l43))], false, [], (.tp [(vS eT r97.1), (vB r97.2)]), [], 1⟩, hA, .g (.env 164 (C.v (vB true)))])
              (ps := [C.v (vB r94) = C.v (vB false), CallOK Try.prog 21 [.ro (.sl 2 l43.length (cs eT174 l43)), .ro (vT s44)] [] (.tp [(vS eT r97.1), (vB r97.2)]), (own (cs eT174 l43)) = (cs eT174 l43).map C.own, 0 + l43.length * 2 ≤ (cs eT174 l43).length, ((cs eT174 l43).drop (0)).take (l43.length * 2) = (cs eT174 l43), (noImL [] && noIm (.tp [(vS eT r97.1), (vB r97.2)])) = true, C.v (vB (!r97.2)) = C.v (vB true), (false : Bool) = false])
              (by kernel_rfl) ⟨vbB h96, F21.fn_c fuel l43 s44 _ h98, rfl, len_all (e := eT174) (rfl), take_cs (e := eT174) (rfl), by simp [noIm, noImL, noImL_cs, NI.noim], vbB h99, rfl, trivial⟩ (fun st hl => ⟨rfl, hl⟩)
          · 
            rcases cond_cases h with ⟨h100, h⟩ | ⟨h100, h⟩
            · 
              obtain ⟨r101, h102, h⟩ := bind_cases h
              obtain ⟨_, h103, h⟩ := bind_cases h
              obtain ⟨j104, h105, h⟩ := bind_cases h
              obtain ⟨r106, h107, h⟩ := bind_cases h
              rcases cond_cases h with ⟨h108, h⟩ | ⟨h108, h⟩
              · 
                rcases cond_cases h with ⟨h109, h⟩ | ⟨h109, h⟩
                · 
                  obtain rfl := Option.some.inj h
                  exact runAt_S (Q := Q1 more42 l43 s44 t45 n46 u47 one48 c49 two50 v51 _) (n := 100000) (c := (.out .normal)) (K := K4) (s := (J4_0 more42 l43 s44 t45 u47 one48 r94).sl) (e := .ret) (t := J1_0 more42 l43 s44 t45 n46 u47 one48 c49 two50 v51 ()) (l := [])
                    (hs := [.g (.env 156 (C.v (vB false))), .call ⟨[.ro, .ro], 9, [(0, (cs eT174 l43), (cs eT174 l43))], false, [], (.tp [(vS eT r97.1), (vB r97.2)]), [], 1⟩, hA, .g (.env 164 (C.v (vB false))), hA, hA, .g (.env 167 (C.v (vB true))), .call ⟨[.ro], 9, [], true, [], (vI .i64 r101), [], 2⟩, hA, .h .dv, .h (.idx j104 false), .h (.cell (C.v (vT (r97.1.getD j104 ByteArray.empty)))), .call ⟨[.ro, .ro], 9, [(0, (cs eT174 l43), (cs eT174 l43))], false, [], (.tp [(vT r106.1), (vI .i64 r106.2.1), (vB r106.2.2)]), [], 2⟩, .skip, .skip, .skip, .skip, .skip, .skip, .skip, .skip, .skip, .g (.env 183 (C.v (vB true))), hA, .skip, .g (.env 187 (C.v (vB true)))])
                    (ps := [C.v (vB r94) = C.v (vB false), CallOK Try.prog 21 [.ro (.sl 2 l43.length (cs eT174 l43)), .ro (vT s44)] [] (.tp [(vS eT r97.1), (vB r97.2)]), (own (cs eT174 l43)) = (cs eT174 l43).map C.own, 0 + l43.length * 2 ≤ (cs eT174 l43).length, ((cs eT174 l43).drop (0)).take (l43.length * 2) = (cs eT174 l43), (noImL [] && noIm (.tp [(vS eT r97.1), (vB r97.2)])) = true, C.v (vB (!r97.2)) = C.v (vB false), C.v (vB (decide ((r97.1.length : Int) > 0))) = C.v (vB true), CallOK Try.prog 23 [.ro (vS (eI .u8) more42)] [] (vI .i64 r101), (r97.1.length : Int) ≠ 0, Int.tmod r101 (r97.1.length : Int) = (j104 : Int), j104 < r97.1.length, ((own (cs eT r97.1))[0 + j104 * 1]?).bind readC = some (C.v (vT (r97.1.getD j104 ByteArray.empty))), CallOK Try.prog 15 [.ro (.sl 2 l43.length (cs eT174 l43)), .ro (vT (r97.1.getD j104 ByteArray.empty))] [] (.tp [(vT r106.1), (vI .i64 r106.2.1), (vB r106.2.2)]), (own (cs eT174 l43)) = (cs eT174 l43).map C.own, 0 + l43.length * 2 ≤ (cs eT174 l43).length, ((cs eT174 l43).drop (0)).take (l43.length * 2) = (cs eT174 l43), (noImL [] && noIm (.tp [(vT r106.1), (vI .i64 r106.2.1), (vB r106.2.2)])) = true, C.v (vB r106.2.2) = C.v (vB true), C.v (vB (!sEq r106.1 t45)) = C.v (vB true), (false : Bool) = false])
                    (by kernel_rfl) ⟨vbB h96, F21.fn_c fuel l43 s44 _ h98, rfl, len_all (e := eT174) (rfl), take_cs (e := eT174) (rfl), by simp [noIm, noImL, noImL_cs, NI.noim], vbB h99, vbB h100, F23.fn_c fuel more42 _ h102, (chk_S h103), (idx_S h105).1, (idx_S h105).2, readC_at (e := eT) (k := 0) (d := ByteArray.empty) (idx_S h105).2 (by decide) rfl, F15.fn_c fuel l43 (r97.1.getD j104 ByteArray.empty) _ h107, rfl, len_all (e := eT174) (rfl), take_cs (e := eT174) (rfl), by simp [noIm, noImL, noImL_cs, NI.noim], vbB h108, vbB h109, rfl, trivial⟩ (fun st hl => ⟨rfl, hl⟩)
                · 
                  obtain rfl := Option.some.inj h
                  exact runAt_S (Q := Q1 more42 l43 s44 t45 n46 u47 one48 c49 two50 v51 _) (n := 100000) (c := (.out .normal)) (K := K4) (s := (J4_0 more42 l43 s44 t45 u47 one48 r94).sl) (e := .normal) (t := J1_1 more42 l43 s44 t45 n46 u47 one48 c49 two50 v51 ()) (l := [])
                    (hs := [.g (.env 156 (C.v (vB false))), .call ⟨[.ro, .ro], 9, [(0, (cs eT174 l43), (cs eT174 l43))], false, [], (.tp [(vS eT r97.1), (vB r97.2)]), [], 1⟩, hA, .g (.env 164 (C.v (vB false))), hA, hA, .g (.env 167 (C.v (vB true))), .call ⟨[.ro], 9, [], true, [], (vI .i64 r101), [], 2⟩, hA, .h .dv, .h (.idx j104 false), .h (.cell (C.v (vT (r97.1.getD j104 ByteArray.empty)))), .call ⟨[.ro, .ro], 9, [(0, (cs eT174 l43), (cs eT174 l43))], false, [], (.tp [(vT r106.1), (vI .i64 r106.2.1), (vB r106.2.2)]), [], 2⟩, .skip, .skip, .skip, .skip, .skip, .skip, .skip, .skip, .skip, .g (.env 183 (C.v (vB true))), hA, .skip, .g (.env 187 (C.v (vB false)))])
                    (ps := [C.v (vB r94) = C.v (vB false), CallOK Try.prog 21 [.ro (.sl 2 l43.length (cs eT174 l43)), .ro (vT s44)] [] (.tp [(vS eT r97.1), (vB r97.2)]), (own (cs eT174 l43)) = (cs eT174 l43).map C.own, 0 + l43.length * 2 ≤ (cs eT174 l43).length, ((cs eT174 l43).drop (0)).take (l43.length * 2) = (cs eT174 l43), (noImL [] && noIm (.tp [(vS eT r97.1), (vB r97.2)])) = true, C.v (vB (!r97.2)) = C.v (vB false), C.v (vB (decide ((r97.1.length : Int) > 0))) = C.v (vB true), CallOK Try.prog 23 [.ro (vS (eI .u8) more42)] [] (vI .i64 r101), (r97.1.length : Int) ≠ 0, Int.tmod r101 (r97.1.length : Int) = (j104 : Int), j104 < r97.1.length, ((own (cs eT r97.1))[0 + j104 * 1]?).bind readC = some (C.v (vT (r97.1.getD j104 ByteArray.empty))), CallOK Try.prog 15 [.ro (.sl 2 l43.length (cs eT174 l43)), .ro (vT (r97.1.getD j104 ByteArray.empty))] [] (.tp [(vT r106.1), (vI .i64 r106.2.1), (vB r106.2.2)]), (own (cs eT174 l43)) = (cs eT174 l43).map C.own, 0 + l43.length * 2 ≤ (cs eT174 l43).length, ((cs eT174 l43).drop (0)).take (l43.length * 2) = (cs eT174 l43), (noImL [] && noIm (.tp [(vT r106.1), (vI .i64 r106.2.1), (vB r106.2.2)])) = true, C.v (vB r106.2.2) = C.v (vB true), C.v (vB (!sEq r106.1 t45)) = C.v (vB false), ((vS (eI .u8) more42) : V) = (vS (eI .u8) more42)])
                    (by kernel_rfl) ⟨vbB h96, F21.fn_c fuel l43 s44 _ h98, rfl, len_all (e := eT174) (rfl), take_cs (e := eT174) (rfl), by simp [noIm, noImL, noImL_cs, NI.noim], vbB h99, vbB h100, F23.fn_c fuel more42 _ h102, (chk_S h103), (idx_S h105).1, (idx_S h105).2, readC_at (e := eT) (k := 0) (d := ByteArray.empty) (idx_S h105).2 (by decide) rfl, F15.fn_c fuel l43 (r97.1.getD j104 ByteArray.empty) _ h107, rfl, len_all (e := eT174) (rfl), take_cs (e := eT174) (rfl), by simp [noIm, noImL, noImL_cs, NI.noim], vbB h108, vbB h109, rfl, trivial⟩ (fun st hl => ⟨rfl, hl⟩)
              · 
                obtain rfl := Option.some.inj h
                exact runAt_S (Q := Q1 more42 l43 s44 t45 n46 u47 one48 c49 two50 v51 _) (n := 100000) (c := (.out .normal)) (K := K4) (s := (J4_0 more42 l43 s44 t45 u47 one48 r94).sl) (e := .normal) (t := J1_1 more42 l43 s44 t45 n46 u47 one48 c49 two50 v51 ()) (l := [])
                  (hs := [.g (.env 156 (C.v (vB false))), .call ⟨[.ro, .ro], 9, [(0, (cs eT174 l43), (cs eT174 l43))], false, [], (.tp [(vS eT r97.1), (vB r97.2)]), [], 1⟩, hA, .g (.env 164 (C.v (vB false))), hA, hA, .g (.env 167 (C.v (vB true))), .call ⟨[.ro], 9, [], true, [], (vI .i64 r101), [], 2⟩, hA, .h .dv, .h (.idx j104 false), .h (.cell (C.v (vT (r97.1.getD j104 ByteArray.empty)))), .call ⟨[.ro, .ro], 9, [(0, (cs eT174 l43), (cs eT174 l43))], false, [], (.tp [(vT r106.1), (vI .i64 r106.2.1), (vB r106.2.2)]), [], 2⟩, .skip, .skip, .skip, .skip, .skip, .skip, .skip, .skip, .skip, .g (.env 183 (C.v (vB false)))])
                  (ps := [C.v (vB r94) = C.v (vB false), CallOK Try.prog 21 [.ro (.sl 2 l43.length (cs eT174 l43)), .ro (vT s44)] [] (.tp [(vS eT r97.1), (vB r97.2)]), (own (cs eT174 l43)) = (cs eT174 l43).map C.own, 0 + l43.length * 2 ≤ (cs eT174 l43).length, ((cs eT174 l43).drop (0)).take (l43.length * 2) = (cs eT174 l43), (noImL [] && noIm (.tp [(vS eT r97.1), (vB r97.2)])) = true, C.v (vB (!r97.2)) = C.v (vB false), C.v (vB (decide ((r97.1.length : Int) > 0))) = C.v (vB true), CallOK Try.prog 23 [.ro (vS (eI .u8) more42)] [] (vI .i64 r101), (r97.1.length : Int) ≠ 0, Int.tmod r101 (r97.1.length : Int) = (j104 : Int), j104 < r97.1.length, ((own (cs eT r97.1))[0 + j104 * 1]?).bind readC = some (C.v (vT (r97.1.getD j104 ByteArray.empty))), CallOK Try.prog 15 [.ro (.sl 2 l43.length (cs eT174 l43)), .ro (vT (r97.1.getD j104 ByteArray.empty))] [] (.tp [(vT r106.1), (vI .i64 r106.2.1), (vB r106.2.2)]), (own (cs eT174 l43)) = (cs eT174 l43).map C.own, 0 + l43.length * 2 ≤ (cs eT174 l43).length, ((cs eT174 l43).drop (0)).take (l43.length * 2) = (cs eT174 l43), (noImL [] && noIm (.tp [(vT r106.1), (vI .i64 r106.2.1), (vB r106.2.2)])) = true, C.v (vB r106.2.2) = C.v (vB false), ((vS (eI .u8) more42) : V) = (vS (eI .u8) more42)])
                  (by kernel_rfl) ⟨vbB h96, F21.fn_c fuel l43 s44 _ h98, rfl, len_all (e := eT174) (rfl), take_cs (e := eT174) (rfl), by simp [noIm, noImL, noImL_cs, NI.noim], vbB h99, vbB h100, F23.fn_c fuel more42 _ h102, (chk_S h103), (idx_S h105).1, (idx_S h105).2, readC_at (e := eT) (k := 0) (d := ByteArray.empty) (idx_S h105).2 (by decide) rfl, F15.fn_c fuel l43 (r97.1.getD j104 ByteArray.empty) _ h107, rfl, len_all (e := eT174) (rfl), take_cs (e := eT174) (rfl), by simp [noIm, noImL, noImL_cs, NI.noim], vbB h108, rfl, trivial⟩ (fun st hl => ⟨rfl, hl⟩)
            · 
              obtain rfl := Option.some.inj h
              exact runAt_S (Q := Q1 more42 l43 s44 t45 n46 u47 one48 c49 two50 v51 _) (n := 100000) (c := (.out .normal)) (K := K4) (s := (J4_0 more42 l43 s44 t45 u47 one48 r94).sl) (e := .normal) (t := J1_1 more42 l43 s44 t45 n46 u47 one48 c49 two50 v51 ()) (l := [])
                (hs := [.g (.env 156 (C.v (vB false))), .call ⟨[.ro, .ro], 9, [(0, (cs eT174 l43), (cs eT174 l43))], false, [], (.tp [(vS eT r97.1), (vB r97.2)]), [], 1⟩, hA, .g (.env 164 (C.v (vB false))), hA, hA, .g (.env 167 (C.v (vB false)))])
                (ps := [C.v (vB r94) = C.v (vB false), CallOK Try.prog 21 [.ro (.sl 2 l43.length (cs eT174 l43)), .ro (vT s44)] [] (.tp [(vS eT r97.1), (vB r97.2)]), (own (cs eT174 l43)) = (cs eT174 l43).map C.own, 0 + l43.length * 2 ≤ (cs eT174 l43).length, ((cs eT174 l43).drop (0)).take (l43.length * 2) = (cs eT174 l43), (noImL [] && noIm (.tp [(vS eT r97.1), (vB r97.2)])) = true, C.v (vB (!r97.2)) = C.v (vB false), C.v (vB (decide ((r97.1.length : Int) > 0))) = C.v (vB false), ((vS (eI .u8) more42) : V) = (vS (eI .u8) more42)])
                (by kernel_rfl) ⟨vbB h96, F21.fn_c fuel l43 s44 _ h98, rfl, len_all (e := eT174) (rfl), take_cs (e := eT174) (rfl), by simp [noIm, noImL, noImL_cs, NI.noim], vbB h99, vbB h100, rfl, trivial⟩ (fun st hl => ⟨rfl, hl⟩)
      · 
        obtain rfl := Option.some.inj h
        exact runAt_S (Q := Q1 more42 l43 s44 t45 n46 u47 one48 c49 two50 v51 _) (n := 100000) (c := (.out .normal)) (K := K3) (s := (J3_0 more42 l43 s44 t45 u47 one48 c49 two50 r84).sl) (e := .normal) (t := J1_1 more42 l43 s44 t45 n46 u47 one48 c49 two50 v51 ()) (l := [])
          (hs := [.g (.env 150 (C.v (vB false)))])
          (ps := [C.v (vB r84) = C.v (vB false), ((vS (eI .u8) more42) : V) = (vS (eI .u8) more42)])
          (by kernel_rfl) ⟨vbB h86, rfl, trivial⟩ (fun st hl => ⟨rfl, hl⟩)
  · 
    obtain rfl := Option.some.inj h
    exact runAt_S (Q := Q1 more42 l43 s44 t45 n46 u47 one48 c49 two50 v51 _) (n := 100000) (c := (.code B1)) (K := []) (s := (I1 more42 l43 s44 t45 n46 u47 one48 c49 two50 v51).sl) (e := .normal) (t := J1_1 more42 l43 s44 t45 n46 u47 one48 c49 two50 v51 ()) (l := [])
      (hs := [.g (.env 115 (C.v (vB false)))])
      (ps := [C.v (vB v51) = C.v (vB false), ((vS (eI .u8) more42) : V) = (vS (eI .u8) more42)])
      (by kernel_rfl) ⟨vbB h52, rfl, trivial⟩ (fun st hl => ⟨rfl, hl⟩)
def fn (fuel : Nat) (code0 : List Int) (more1 : List Int) : Option Bool :=
  cond (decide (w64 ((code0.length : Int) + (more1.length : Int)) > 1048576))
  (some true)
  ((F14.fn fuel code0).bind fun r2 =>
    (F15.fn fuel r2.1 r2.2).bind fun r4 =>
    (F16.fn fuel r2.1 r2.2).bind fun r6 =>
    (F17.fn fuel r2.1 r2.2).bind fun r8 =>
    (F18.fn fuel r2.1 r2.2).bind fun r10 =>
    (F19.fn fuel r2.1).bind fun r12 =>
    (F20.fn fuel r2.1).bind fun r14 =>
    (p0 fuel more1 r2.1 r2.2 r4.1 r4.2.1 r4.2.2 r6.1 r6.2.1 r6.2.2 r8.1 r8.2 r10.1 r10.2 r12.1 r12.2 r14.1 r14.2).bind fun r39 =>
    cond (r39)
    (some false)
    ((p1 fuel more1 r2.1 r2.2 r4.1 r4.2.1 r8.1 r8.2 r12.1 r12.2 r4.2.2).bind fun r110 =>
      (Sum.elim (fun y112 => some false)
      (fun y113 => (F24.fn fuel more1).bind fun r114 =>
        (F25.fn fuel r114.1 r114.2.1 r114.2.2).bind fun r116 =>
        (F26.fn fuel r114.1 r114.2.1 r114.2.2).bind fun r118 =>
        cond (r116.2 == r118.2)
        (some (r116.1 == r118.1))
        (some false))) r110))
theorem ent : enterable Try.prog 3 = true := by kernel_rfl
theorem fn_c (fuel : Nat) (code0 : List Int) (more1 : List Int) (r : Bool) (h : fn fuel code0 more1 = some r) : CallOK Try.prog 3 [.ro (vS (eI .u8) code0), .ro (vS (eI .u8) more1)] [] (vB r) := by
  refine contract_run Try.func3 (b := bod Try.f3) rfl ent ?_
  unfold fn at h
  rcases cond_cases h with ⟨h1, h⟩ | ⟨h1, h⟩
  · 
    obtain rfl := Option.some.inj h
    exact runRet_S (r := ⟨Try.f3.results.toList, _, _, _, [], 9⟩) (n := 100000) (c := (.code (bod Try.f3))) (K := [])
      (hs := [hA, hA, hA, hA, .g (.env 40 (C.v (vB true)))])
      (ps := [C.v (vB (decide (w64 ((code0.length : Int) + (more1.length : Int)) > 1048576))) = C.v (vB true), (true : Bool) = true])
      (by kernel_rfl) ⟨vbB h1, rfl, trivial⟩ rfl (fun _ _ h => h)
  · 
    obtain ⟨r2, h3, h⟩ := bind_cases h
    obtain ⟨r4, h5, h⟩ := bind_cases h
    obtain ⟨r6, h7, h⟩ := bind_cases h
    obtain ⟨r8, h9, h⟩ := bind_cases h
    obtain ⟨r10, h11, h⟩ := bind_cases h
    obtain ⟨r12, h13, h⟩ := bind_cases h
    obtain ⟨r14, h15, h⟩ := bind_cases h
    obtain ⟨r39, h40, h⟩ := bind_cases h
    refine runTo_S (n := 33) (c := (.code (bod Try.f3))) (K := []) (b := (.code B0)) (K1 := K0) (t := I0 more1 r2.1 r2.2 r4.1 r4.2.1 r4.2.2 r6.1 r6.2.1 r6.2.2 r8.1 r8.2 r10.1 r10.2 r12.1 r12.2 r14.1 r14.2) (l := [(0, 0)])
      (hs := [hA, hA, hA, hA, .g (.env 40 (C.v (vB false))), .call ⟨[.ro], 9, [], true, [], (.tp [(vS eT174 r2.1), (vT r2.2)]), [], 0⟩, .call ⟨[.ro, .ro], 9, [(0, (cs eT174 r2.1), (cs eT174 r2.1))], false, [], (.tp [(vT r4.1), (vI .i64 r4.2.1), (vB r4.2.2)]), [], 1⟩, .call ⟨[.ro, .ro], 9, [(0, (cs eT174 r2.1), (cs eT174 r2.1))], false, [], (.tp [(vT r6.1), (vI .i64 r6.2.1), (vB r6.2.2)]), [], 1⟩, .call ⟨[.ro, .ro], 9, [(0, (cs eT174 r2.1), (cs eT174 r2.1))], false, [], (.tp [(vT r8.1), (vB r8.2)]), [], 1⟩, .call ⟨[.ro, .ro], 9, [(0, (cs eT174 r2.1), (cs eT174 r2.1))], false, [], (.tp [(vT r10.1), (vB r10.2)]), [], 1⟩, .call ⟨[.ro], 9, [(0, (cs eT174 r2.1), (cs eT174 r2.1))], false, [], (.tp [(vB r12.1), (vB r12.2)]), [], 1⟩, .call ⟨[.ro], 9, [(0, (cs eT174 r2.1), (cs eT174 r2.1))], false, [], (.tp [(vB r14.1), (vB r14.2)]), [], 1⟩])
      (ps := [C.v (vB (decide (w64 ((code0.length : Int) + (more1.length : Int)) > 1048576))) = C.v (vB false), CallOK Try.prog 14 [.ro (vS (eI .u8) code0)] [] (.tp [(vS eT174 r2.1), (vT r2.2)]), CallOK Try.prog 15 [.ro (.sl 2 r2.1.length (cs eT174 r2.1)), .ro (vT r2.2)] [] (.tp [(vT r4.1), (vI .i64 r4.2.1), (vB r4.2.2)]), (own (cs eT174 r2.1)) = (cs eT174 r2.1).map C.own, 0 + r2.1.length * 2 ≤ (cs eT174 r2.1).length, ((cs eT174 r2.1).drop (0)).take (r2.1.length * 2) = (cs eT174 r2.1), (noImL [] && noIm (.tp [(vT r4.1), (vI .i64 r4.2.1), (vB r4.2.2)])) = true, CallOK Try.prog 16 [.ro (.sl 2 r2.1.length (cs eT174 r2.1)), .ro (vT r2.2)] [] (.tp [(vT r6.1), (vI .i64 r6.2.1), (vB r6.2.2)]), (own (cs eT174 r2.1)) = (cs eT174 r2.1).map C.own, 0 + r2.1.length * 2 ≤ (cs eT174 r2.1).length, ((cs eT174 r2.1).drop (0)).take (r2.1.length * 2) = (cs eT174 r2.1), (noImL [] && noIm (.tp [(vT r6.1), (vI .i64 r6.2.1), (vB r6.2.2)])) = true, CallOK Try.prog 17 [.ro (.sl 2 r2.1.length (cs eT174 r2.1)), .ro (vT r2.2)] [] (.tp [(vT r8.1), (vB r8.2)]), (own (cs eT174 r2.1)) = (cs eT174 r2.1).map C.own, 0 + r2.1.length * 2 ≤ (cs eT174 r2.1).length, ((cs eT174 r2.1).drop (0)).take (r2.1.length * 2) = (cs eT174 r2.1), (noImL [] && noIm (.tp [(vT r8.1), (vB r8.2)])) = true, CallOK Try.prog 18 [.ro (.sl 2 r2.1.length (cs eT174 r2.1)), .ro (vT r2.2)] [] (.tp [(vT r10.1), (vB r10.2)]), (own (cs eT174 r2.1)) = (cs eT174 r2.1).map C.own, 0 + r2.1.length * 2 ≤ (cs eT174 r2.1).length, ((cs eT174 r2.1).drop (0)).take (r2.1.length * 2) = (cs eT174 r2.1), (noImL [] && noIm (.tp [(vT r10.1), (vB r10.2)])) = true, CallOK Try.prog 19 [.ro (.sl 2 r2.1.length (cs eT174 r2.1))] [] (.tp [(vB r12.1), (vB r12.2)]), (own (cs eT174 r2.1)) = (cs eT174 r2.1).map C.own, 0 + r2.1.length * 2 ≤ (cs eT174 r2.1).length, ((cs eT174 r2.1).drop (0)).take (r2.1.length * 2) = (cs eT174 r2.1), (noImL [] && noIm (.tp [(vB r12.1), (vB r12.2)])) = true, CallOK Try.prog 20 [.ro (.sl 2 r2.1.length (cs eT174 r2.1))] [] (.tp [(vB r14.1), (vB r14.2)]), (own (cs eT174 r2.1)) = (cs eT174 r2.1).map C.own, 0 + r2.1.length * 2 ≤ (cs eT174 r2.1).length, ((cs eT174 r2.1).drop (0)).take (r2.1.length * 2) = (cs eT174 r2.1), (noImL [] && noIm (.tp [(vB r14.1), (vB r14.2)])) = true, ((vS (eI .u8) more1) : V) = (vS (eI .u8) more1), 0 = 0, r2.1.length = r2.1.length, Value.string r2.2 = Value.string r2.2, Value.string r4.1 = Value.string r4.1, (r4.2.1 : Int) = r4.2.1, (r4.2.2 : Bool) = r4.2.2, Value.string r6.1 = Value.string r6.1, (r6.2.1 : Int) = r6.2.1, (r6.2.2 : Bool) = r6.2.2, Value.string r8.1 = Value.string r8.1, (r8.2 : Bool) = r8.2, Value.string r10.1 = Value.string r10.1, (r10.2 : Bool) = r10.2, (r12.1 : Bool) = r12.1, (r12.2 : Bool) = r12.2, (r14.1 : Bool) = r14.1, (r14.2 : Bool) = r14.2, (own (cs eT174 r2.1)) = (cs eT174 r2.1).map C.own])
      (by kernel_rfl) ⟨vbB h1, F14.fn_c fuel code0 _ h3, F15.fn_c fuel r2.1 r2.2 _ h5, rfl, len_all (e := eT174) (rfl), take_cs (e := eT174) (rfl), by simp [noIm, noImL, noImL_cs, NI.noim], F16.fn_c fuel r2.1 r2.2 _ h7, rfl, len_all (e := eT174) (rfl), take_cs (e := eT174) (rfl), by simp [noIm, noImL, noImL_cs, NI.noim], F17.fn_c fuel r2.1 r2.2 _ h9, rfl, len_all (e := eT174) (rfl), take_cs (e := eT174) (rfl), by simp [noIm, noImL, noImL_cs, NI.noim], F18.fn_c fuel r2.1 r2.2 _ h11, rfl, len_all (e := eT174) (rfl), take_cs (e := eT174) (rfl), by simp [noIm, noImL, noImL_cs, NI.noim], F19.fn_c fuel r2.1 _ h13, rfl, len_all (e := eT174) (rfl), take_cs (e := eT174) (rfl), by simp [noIm, noImL, noImL_cs, NI.noim], F20.fn_c fuel r2.1 _ h15, rfl, len_all (e := eT174) (rfl), take_cs (e := eT174) (rfl), by simp [noIm, noImL, noImL_cs, NI.noim], rfl, rfl, rfl, rfl, rfl, rfl, rfl, rfl, rfl, rfl, rfl, rfl, rfl, rfl, rfl, rfl, rfl, rfl, rfl, trivial⟩ (cut_code ?_)
    refine TW.mono_le (p0_c fuel more1 r2.1 r2.2 r4.1 r4.2.1 r4.2.2 r6.1 r6.2.1 r6.2.2 r8.1 r8.2 r10.1 r10.2 r12.1 r12.2 r14.1 r14.2 _ h40) ?_
    rintro e st hq
    obtain ⟨rfl, hl⟩ := hq
    refine ⟨_, hl, ?_⟩
    rcases cond_cases h with ⟨h41, h⟩ | ⟨h41, h⟩
    · 
      obtain rfl := Option.some.inj h
      exact runRet_S (r := ⟨Try.f3.results.toList, _, _, _, [], 9⟩) (n := 100000) (c := (.out .normal)) (K := K0) (s := (J0_0 more1 r2.1 r2.2 r4.1 r4.2.1 r4.2.2 r6.1 r6.2.1 r6.2.2 r8.1 r8.2 r10.1 r10.2 r12.1 r12.2 r14.1 r14.2 r39).sl)
        (hs := [.g (.env 114 (C.v (vB true)))])
        (ps := [C.v (vB r39) = C.v (vB true), (false : Bool) = false])
        (by kernel_rfl) ⟨vbB h41, rfl, trivial⟩ rfl (fun _ _ h => h)
    · 
      obtain ⟨r110, h111, h⟩ := bind_cases h
      refine runTo_S (n := 8) (c := (.out .normal)) (K := K0) (s := (J0_0 more1 r2.1 r2.2 r4.1 r4.2.1 r4.2.2 r6.1 r6.2.1 r6.2.2 r8.1 r8.2 r10.1 r10.2 r12.1 r12.2 r14.1 r14.2 r39).sl) (b := (.code B1)) (K1 := K1) (t := I1 more1 r2.1 r2.2 r4.1 r4.2.1 r8.1 r8.2 r12.1 r12.2 r4.2.2) (l := [(0, 0)])
        (hs := [.g (.env 114 (C.v (vB false)))])
        (ps := [C.v (vB r39) = C.v (vB false), ((vS (eI .u8) more1) : V) = (vS (eI .u8) more1), 0 = 0, r2.1.length = r2.1.length, Value.string r2.2 = Value.string r2.2, Value.string r4.1 = Value.string r4.1, (r4.2.1 : Int) = r4.2.1, Value.string r8.1 = Value.string r8.1, (r8.2 : Bool) = r8.2, (r12.1 : Bool) = r12.1, (r12.2 : Bool) = r12.2, (r4.2.2 : Bool) = r4.2.2, (own (cs eT174 r2.1)) = (cs eT174 r2.1).map C.own])
        (by kernel_rfl) ⟨vbB h41, rfl, rfl, rfl, rfl, rfl, rfl, rfl, rfl, rfl, rfl, rfl, rfl, trivial⟩ (cut_code ?_)
      refine TW.mono_le (p1_c fuel more1 r2.1 r2.2 r4.1 r4.2.1 r8.1 r8.2 r12.1 r12.2 r4.2.2 _ h111) ?_
      rcases r110 with y112 | y113
      · 
        replace h := sum_l h
        rintro e st hq
        obtain ⟨rfl, hl⟩ := hq
        refine ⟨_, hl, ?_⟩
        obtain rfl := Option.some.inj h
        exact runRet_S (r := ⟨Try.f3.results.toList, _, _, _, [], 9⟩) (n := 100000) (c := (.out .ret)) (K := K1) (s := (J1_0 more1 r2.1 r2.2 r4.1 r4.2.1 r8.1 r8.2 r12.1 r12.2 r4.2.2 y112).sl)
          (hs := [])
          (ps := [(false : Bool) = false])
          (by kernel_rfl) ⟨rfl, trivial⟩ rfl (fun _ _ h => h)
      · 
        replace h := sum_r h
        rintro e st hq
        obtain ⟨rfl, hl⟩ := hq
        refine ⟨_, hl, ?_⟩
        obtain ⟨r114, h115, h⟩ := bind_cases h
        obtain ⟨r116, h117, h⟩ := bind_cases h
        obtain ⟨r118, h119, h⟩ := bind_cases h
        rcases cond_cases h with ⟨h120, h⟩ | ⟨h120, h⟩
        · 
          obtain rfl := Option.some.inj h
          exact runRet_S (r := ⟨Try.f3.results.toList, _, _, _, [], 9⟩) (n := 100000) (c := (.out .normal)) (K := K1) (s := (J1_1 more1 r2.1 r2.2 r4.1 r4.2.1 r8.1 r8.2 r12.1 r12.2 r4.2.2 y113).sl)
            (hs := [.call ⟨[.ro], 9, [], true, [], (.tp [(vS eT174 r114.1), (vT r114.2.1), (vT r114.2.2)]), [], 0⟩, .call ⟨[.ro, .ro, .ro], 9, [(0, (cs eT174 r114.1), (cs eT174 r114.1))], false, [], (.tp [(vB r116.1), (vB r116.2)]), [], 1⟩, .call ⟨[.ro, .ro, .ro], 9, [(0, (cs eT174 r114.1), (cs eT174 r114.1))], false, [], (.tp [(vB r118.1), (vB r118.2)]), [], 1⟩, hA, .skip, .g (.env 211 (C.v (vB true))), hA])
            (ps := [CallOK Try.prog 24 [.ro (vS (eI .u8) more1)] [] (.tp [(vS eT174 r114.1), (vT r114.2.1), (vT r114.2.2)]), CallOK Try.prog 25 [.ro (.sl 2 r114.1.length (cs eT174 r114.1)), .ro (vT r114.2.1), .ro (vT r114.2.2)] [] (.tp [(vB r116.1), (vB r116.2)]), (own (cs eT174 r114.1)) = (cs eT174 r114.1).map C.own, 0 + r114.1.length * 2 ≤ (cs eT174 r114.1).length, ((cs eT174 r114.1).drop (0)).take (r114.1.length * 2) = (cs eT174 r114.1), (noImL [] && noIm (.tp [(vB r116.1), (vB r116.2)])) = true, CallOK Try.prog 26 [.ro (.sl 2 r114.1.length (cs eT174 r114.1)), .ro (vT r114.2.1), .ro (vT r114.2.2)] [] (.tp [(vB r118.1), (vB r118.2)]), (own (cs eT174 r114.1)) = (cs eT174 r114.1).map C.own, 0 + r114.1.length * 2 ≤ (cs eT174 r114.1).length, ((cs eT174 r114.1).drop (0)).take (r114.1.length * 2) = (cs eT174 r114.1), (noImL [] && noIm (.tp [(vB r118.1), (vB r118.2)])) = true, C.v (vB (r116.2 == r118.2)) = C.v (vB true), (r116.1 == r118.1 : Bool) = (r116.1 == r118.1)])
            (by kernel_rfl) ⟨F24.fn_c fuel more1 _ h115, F25.fn_c fuel r114.1 r114.2.1 r114.2.2 _ h117, rfl, len_all (e := eT174) (rfl), take_cs (e := eT174) (rfl), by simp [noIm, noImL, noImL_cs, NI.noim], F26.fn_c fuel r114.1 r114.2.1 r114.2.2 _ h119, rfl, len_all (e := eT174) (rfl), take_cs (e := eT174) (rfl), by simp [noIm, noImL, noImL_cs, NI.noim], vbB h120, rfl, trivial⟩ rfl (fun _ _ h => h)
        · 
          obtain rfl := Option.some.inj h
          exact runRet_S (r := ⟨Try.f3.results.toList, _, _, _, [], 9⟩) (n := 100000) (c := (.out .normal)) (K := K1) (s := (J1_1 more1 r2.1 r2.2 r4.1 r4.2.1 r8.1 r8.2 r12.1 r12.2 r4.2.2 y113).sl)
            (hs := [.call ⟨[.ro], 9, [], true, [], (.tp [(vS eT174 r114.1), (vT r114.2.1), (vT r114.2.2)]), [], 0⟩, .call ⟨[.ro, .ro, .ro], 9, [(0, (cs eT174 r114.1), (cs eT174 r114.1))], false, [], (.tp [(vB r116.1), (vB r116.2)]), [], 1⟩, .call ⟨[.ro, .ro, .ro], 9, [(0, (cs eT174 r114.1), (cs eT174 r114.1))], false, [], (.tp [(vB r118.1), (vB r118.2)]), [], 1⟩, hA, .skip, .g (.env 211 (C.v (vB false)))])
            (ps := [CallOK Try.prog 24 [.ro (vS (eI .u8) more1)] [] (.tp [(vS eT174 r114.1), (vT r114.2.1), (vT r114.2.2)]), CallOK Try.prog 25 [.ro (.sl 2 r114.1.length (cs eT174 r114.1)), .ro (vT r114.2.1), .ro (vT r114.2.2)] [] (.tp [(vB r116.1), (vB r116.2)]), (own (cs eT174 r114.1)) = (cs eT174 r114.1).map C.own, 0 + r114.1.length * 2 ≤ (cs eT174 r114.1).length, ((cs eT174 r114.1).drop (0)).take (r114.1.length * 2) = (cs eT174 r114.1), (noImL [] && noIm (.tp [(vB r116.1), (vB r116.2)])) = true, CallOK Try.prog 26 [.ro (.sl 2 r114.1.length (cs eT174 r114.1)), .ro (vT r114.2.1), .ro (vT r114.2.2)] [] (.tp [(vB r118.1), (vB r118.2)]), (own (cs eT174 r114.1)) = (cs eT174 r114.1).map C.own, 0 + r114.1.length * 2 ≤ (cs eT174 r114.1).length, ((cs eT174 r114.1).drop (0)).take (r114.1.length * 2) = (cs eT174 r114.1), (noImL [] && noIm (.tp [(vB r118.1), (vB r118.2)])) = true, C.v (vB (r116.2 == r118.2)) = C.v (vB false), (false : Bool) = false])
            (by kernel_rfl) ⟨F24.fn_c fuel more1 _ h115, F25.fn_c fuel r114.1 r114.2.1 r114.2.2 _ h117, rfl, len_all (e := eT174) (rfl), take_cs (e := eT174) (rfl), by simp [noIm, noImL, noImL_cs, NI.noim], F26.fn_c fuel r114.1 r114.2.1 r114.2.2 _ h119, rfl, len_all (e := eT174) (rfl), take_cs (e := eT174) (rfl), by simp [noIm, noImL, noImL_cs, NI.noim], vbB h120, rfl, trivial⟩ rfl (fun _ _ h => h)
end F3
end Go.Eng
