/-
  The functions that the law reaches, each as a plain function over lists and numbers, and each one's contract: where the plain function answers, the code returns that answer. Conditions: none beyond what each contract says.
-/
import Derived.Test.YteenopeoblkakaaFA
set_option linter.unusedVariables false
set_option linter.unusedSimpArgs false
set_option linter.unnecessarySimpa false
set_option linter.unusedVariables false
set_option linter.unusedSimpArgs false
set_option maxRecDepth 100000
set_option maxHeartbeats 1000000
namespace Go.Eng
open Go.Proofs
namespace F220
/-! impl.fieldsOf -/
noncomputable def K0 := (subC [1, 0, 1, 0, 1, 1, 0, 1] (bod Try.f220) []).2
noncomputable def B0 := (subC [1, 0, 1, 0, 1, 1, 0, 1] (bod Try.f220) []).1
def I0 (v2 : Int) (v3 : Bool) : TL := ⟨22, [C.dead], [(2, C.pr 0 0), (4, C.v (vI .i64 v2)), (8, C.v (vB v3))], [], [(0, [C.own (vB false), C.own (vB false), C.own (vB false), C.own (vB false), C.own (vB false)])]⟩
def J0_0 (v2 : Int) (v3 : Bool) (o : Bool) : TL := ⟨22, [C.dead], [(2, C.pr 0 0), (4, C.v (vI .i64 v2)), (8, C.v (vB o))], [], [(0, [C.own (vB false), C.own (vB false), C.own (vB false), C.own (vB false), C.own (vB false)])]⟩
def Q0 (v2 : Int) (v3 : Bool) (r : Bool) (e : Exit) (st : St) : Prop := (fun o => e = .normal ∧ Le st (J0_0 v2 v3 o).sl.st) r
def p0 (fuel : Nat) (v2 : Int) (v3 : Bool) : Option Bool :=
  cond (v3)
  (some true)
  (some (decide (v2 = 4)))
theorem p0_c (fuel : Nat) (v2 : Int) (v3 : Bool) (r : Bool) (h : p0 fuel v2 v3 = some r) : TW Try.prog B0 (I0 v2 v3).sl.st (Q0 v2 v3 r) := by
  unfold p0 at h
  rcases cond_cases h with ⟨h4, h⟩ | ⟨h4, h⟩
  · 
    obtain rfl := Option.some.inj h
    exact runAt_S (Q := Q0 v2 v3 _) (n := 100000) (c := (.code B0)) (K := []) (s := (I0 v2 v3).sl) (e := .normal) (t := J0_0 v2 v3 true) (l := [(0, 0)])
      (hs := [.g (.env 8 (C.v (vB true)))])
      (ps := [C.v (vB v3) = C.v (vB true), 0 = 0, (v2 : Int) = v2, (true : Bool) = true, (false : Bool) = false, (false : Bool) = false, (false : Bool) = false, (false : Bool) = false, (false : Bool) = false])
      (by kernel_rfl) ⟨vbB h4, rfl, rfl, rfl, rfl, rfl, rfl, rfl, rfl, trivial⟩ (fun st hl => ⟨rfl, hl⟩)
  · 
    obtain rfl := Option.some.inj h
    exact runAt_S (Q := Q0 v2 v3 _) (n := 100000) (c := (.code B0)) (K := []) (s := (I0 v2 v3).sl) (e := .normal) (t := J0_0 v2 v3 (decide (v2 = 4))) (l := [(0, 0)])
      (hs := [.g (.env 8 (C.v (vB false))), hA])
      (ps := [C.v (vB v3) = C.v (vB false), 0 = 0, (v2 : Int) = v2, (decide (v2 = 4) : Bool) = (decide (v2 = 4)), (false : Bool) = false, (false : Bool) = false, (false : Bool) = false, (false : Bool) = false, (false : Bool) = false])
      (by kernel_rfl) ⟨vbB h4, rfl, rfl, rfl, rfl, rfl, rfl, rfl, rfl, trivial⟩ (fun st hl => ⟨rfl, hl⟩)
def fn (fuel : Nat) (op0 : Int) : Option (T243 × Bool) :=
  cond (decide (op0 = 1))
  (some ((⟨true, false, false, true, false⟩ : T243), true))
  ((p0 fuel op0 (decide (op0 = 2))).bind fun r5 =>
    cond (r5)
    (some ((⟨true, true, false, false, false⟩ : T243), true))
    (cond (decide (op0 = 3))
      (some ((⟨true, true, true, false, true⟩ : T243), true))
      (cond (decide (op0 = 5))
        (some ((⟨false, true, true, false, false⟩ : T243), true))
        (cond (decide (op0 = 6))
          (some ((⟨false, true, false, false, false⟩ : T243), true))
          (some ((⟨false, false, false, false, false⟩ : T243), false))))))
theorem ent : enterable Try.prog 220 = true := by kernel_rfl
theorem fn_c (fuel : Nat) (op0 : Int) (r : T243 × Bool) (h : fn fuel op0 = some r) : CallOK Try.prog 220 [.ro (vI .i64 op0)] [] (.tp [(.ag (eT243.f r.1)), (vB r.2)]) := by
  refine contract_run Try.func220 (b := bod Try.f220) rfl ent ?_
  unfold fn at h
  rcases cond_cases h with ⟨h1, h⟩ | ⟨h1, h⟩
  · 
    obtain rfl := Option.some.inj h
    exact runRet_S (r := ⟨Try.f220.results.toList, _, _, _, [], 9⟩) (n := 100000) (c := (.code (bod Try.f220))) (K := [])
      (hs := [.h (.new 0), hA, .skip, .g (.env 5 (C.v (vB true))), hA])
      (ps := [C.v (vB (decide (op0 = 1))) = C.v (vB true), (V.tp [(.ag [(vB true), (vB false), (vB false), (vB true), (vB false)]), (vB true)]) = V.tp [(.ag (eT243.f (⟨true, false, false, true, false⟩ : T243))), (vB true)]])
      (by kernel_rfl) ⟨vbB h1, rfl, trivial⟩ rfl (fun _ _ h => h)
  · 
    obtain ⟨r5, h6, h⟩ := bind_cases h
    refine runTo_S (n := 16) (c := (.code (bod Try.f220))) (K := []) (b := (.code B0)) (K1 := K0) (t := I0 op0 (decide (op0 = 2))) (l := [(0, 0)])
      (hs := [.h (.new 0), hA, .skip, .g (.env 5 (C.v (vB false))), hA])
      (ps := [C.v (vB (decide (op0 = 1))) = C.v (vB false), 0 = 0, (op0 : Int) = op0, (decide (op0 = 2) : Bool) = (decide (op0 = 2)), (false : Bool) = false, (false : Bool) = false, (false : Bool) = false, (false : Bool) = false, (false : Bool) = false])
      (by kernel_rfl) ⟨vbB h1, rfl, rfl, rfl, rfl, rfl, rfl, rfl, rfl, trivial⟩ (cut_code ?_)
    refine TW.mono_le (p0_c fuel op0 (decide (op0 = 2)) _ h6) ?_
    rintro e st hq
    obtain ⟨rfl, hl⟩ := hq
    refine ⟨_, hl, ?_⟩
    rcases cond_cases h with ⟨h7, h⟩ | ⟨h7, h⟩
    · 
      obtain rfl := Option.some.inj h
      exact runRet_S (r := ⟨Try.f220.results.toList, _, _, _, [], 9⟩) (n := 100000) (c := (.out .normal)) (K := K0) (s := (J0_0 op0 (decide (op0 = 2)) r5).sl)
        (hs := [.g (.env 8 (C.v (vB true))), hA])
        (ps := [C.v (vB r5) = C.v (vB true), (V.tp [(.ag [(vB true), (vB true), (vB false), (vB false), (vB false)]), (vB true)]) = V.tp [(.ag (eT243.f (⟨true, true, false, false, false⟩ : T243))), (vB true)]])
        (by kernel_rfl) ⟨vbB h7, rfl, trivial⟩ rfl (fun _ _ h => h)
    · 
      rcases cond_cases h with ⟨h8, h⟩ | ⟨h8, h⟩
      · 
        obtain rfl := Option.some.inj h
        exact runRet_S (r := ⟨Try.f220.results.toList, _, _, _, [], 9⟩) (n := 100000) (c := (.out .normal)) (K := K0) (s := (J0_0 op0 (decide (op0 = 2)) r5).sl)
          (hs := [.g (.env 8 (C.v (vB false))), hA, .skip, .g (.env 12 (C.v (vB true))), hA])
          (ps := [C.v (vB r5) = C.v (vB false), C.v (vB (decide (op0 = 3))) = C.v (vB true), (V.tp [(.ag [(vB true), (vB true), (vB true), (vB false), (vB true)]), (vB true)]) = V.tp [(.ag (eT243.f (⟨true, true, true, false, true⟩ : T243))), (vB true)]])
          (by kernel_rfl) ⟨vbB h7, vbB h8, rfl, trivial⟩ rfl (fun _ _ h => h)
      · 
        rcases cond_cases h with ⟨h9, h⟩ | ⟨h9, h⟩
        · 
          obtain rfl := Option.some.inj h
          exact runRet_S (r := ⟨Try.f220.results.toList, _, _, _, [], 9⟩) (n := 100000) (c := (.out .normal)) (K := K0) (s := (J0_0 op0 (decide (op0 = 2)) r5).sl)
            (hs := [.g (.env 8 (C.v (vB false))), hA, .skip, .g (.env 12 (C.v (vB false))), hA, .skip, .g (.env 15 (C.v (vB true))), hA])
            (ps := [C.v (vB r5) = C.v (vB false), C.v (vB (decide (op0 = 3))) = C.v (vB false), C.v (vB (decide (op0 = 5))) = C.v (vB true), (V.tp [(.ag [(vB false), (vB true), (vB true), (vB false), (vB false)]), (vB true)]) = V.tp [(.ag (eT243.f (⟨false, true, true, false, false⟩ : T243))), (vB true)]])
            (by kernel_rfl) ⟨vbB h7, vbB h8, vbB h9, rfl, trivial⟩ rfl (fun _ _ h => h)
        · 
          rcases cond_cases h with ⟨h10, h⟩ | ⟨h10, h⟩
          · 
            obtain rfl := Option.some.inj h
            exact runRet_S (r := ⟨Try.f220.results.toList, _, _, _, [], 9⟩) (n := 100000) (c := (.out .normal)) (K := K0) (s := (J0_0 op0 (decide (op0 = 2)) r5).sl)
              (hs := [.g (.env 8 (C.v (vB false))), hA, .skip, .g (.env 12 (C.v (vB false))), hA, .skip, .g (.env 15 (C.v (vB false))), hA, .skip, .g (.env 18 (C.v (vB true))), hA])
              (ps := [C.v (vB r5) = C.v (vB false), C.v (vB (decide (op0 = 3))) = C.v (vB false), C.v (vB (decide (op0 = 5))) = C.v (vB false), C.v (vB (decide (op0 = 6))) = C.v (vB true), (V.tp [(.ag [(vB false), (vB true), (vB false), (vB false), (vB false)]), (vB true)]) = V.tp [(.ag (eT243.f (⟨false, true, false, false, false⟩ : T243))), (vB true)]])
              (by kernel_rfl) ⟨vbB h7, vbB h8, vbB h9, vbB h10, rfl, trivial⟩ rfl (fun _ _ h => h)
          · 
            obtain rfl := Option.some.inj h
            exact runRet_S (r := ⟨Try.f220.results.toList, _, _, _, [], 9⟩) (n := 100000) (c := (.out .normal)) (K := K0) (s := (J0_0 op0 (decide (op0 = 2)) r5).sl)
              (hs := [.g (.env 8 (C.v (vB false))), hA, .skip, .g (.env 12 (C.v (vB false))), hA, .skip, .g (.env 15 (C.v (vB false))), hA, .skip, .g (.env 18 (C.v (vB false))), hA])
              (ps := [C.v (vB r5) = C.v (vB false), C.v (vB (decide (op0 = 3))) = C.v (vB false), C.v (vB (decide (op0 = 5))) = C.v (vB false), C.v (vB (decide (op0 = 6))) = C.v (vB false), (V.tp [(.ag [(vB false), (vB false), (vB false), (vB false), (vB false)]), (vB false)]) = V.tp [(.ag (eT243.f (⟨false, false, false, false, false⟩ : T243))), (vB false)]])
              (by kernel_rfl) ⟨vbB h7, vbB h8, vbB h9, vbB h10, rfl, trivial⟩ rfl (fun _ _ h => h)
end F220
namespace F243
/-! impl.isTwo -/
def fn (fuel : Nat) (op0 : Int) : Option Bool :=
  (F97.fn fuel op0 4 9).bind fun r1 =>
  some r1
theorem ent : enterable Try.prog 243 = true := by kernel_rfl
theorem fn_c (fuel : Nat) (op0 : Int) (r : Bool) (h : fn fuel op0 = some r) : CallOK Try.prog 243 [.ro (vI .i64 op0)] [] (vB r) := by
  refine contract_run Try.func243 (b := bod Try.f243) rfl ent ?_
  unfold fn at h
  obtain ⟨r1, h2, h⟩ := bind_cases h
  obtain rfl := Option.some.inj h
  exact runRet_S (r := ⟨Try.f243.results.toList, _, _, _, [], 9⟩) (n := 100000) (c := (.code (bod Try.f243))) (K := [])
    (hs := [.call ⟨[.ro, .ro, .ro], 9, [], true, [], (vB r1), [], 0⟩])
    (ps := [CallOK Try.prog 97 [.ro (vI .i64 op0), .ro (vI .i64 4), .ro (vI .i64 9)] [] (vB r1), (r1 : Bool) = r1])
    (by kernel_rfl) ⟨F97.fn_c fuel op0 4 9 _ h2, rfl, trivial⟩ rfl (fun _ _ h => h)
end F243
namespace F258
/-! impl.flatOK$1 -/
def fn (fuel : Nat) (has0 : Bool) (n1 : Int) (cap0 : Int) : Option (Bool × Int) :=
  cond (!has0)
  (cond (decide (n1 = 0))
    (some (true, cap0))
    (cond (has0)
      ((F97.fn fuel n1 0 (w64 (cap0 - 1))).bind fun r4 =>
        some (r4, cap0))
      (some (false, cap0))))
  (cond (has0)
    ((F97.fn fuel n1 0 (w64 (cap0 - 1))).bind fun r7 =>
      some (r7, cap0))
    (some (false, cap0)))
theorem ent : enterable Try.prog 258 = true := by kernel_rfl
theorem fn_c (fuel : Nat) (has0 : Bool) (n1 : Int) (cap0 : Int) (r : Bool × Int) (h : fn fuel has0 n1 cap0 = some r) : CallOK Try.prog 258 [.ro (vB has0), .ro (vI .i64 n1), .io (.bx [(vI .i64 cap0)])] [(.bx [(vI .i64 r.2)])] (vB r.1) := by
  refine contract_run Try.func258 (b := bod Try.f258) rfl ent ?_
  unfold fn at h
  rcases cond_cases h with ⟨h1, h⟩ | ⟨h1, h⟩
  · 
    rcases cond_cases h with ⟨h2, h⟩ | ⟨h2, h⟩
    · 
      obtain rfl := Option.some.inj h
      exact runRet_S (r := ⟨Try.f258.results.toList, _, _, _, [], 9⟩) (n := 100000) (c := (.code (bod Try.f258))) (K := [])
        (hs := [hA, .skip, .g (.env 8 (C.v (vB true))), hA, .skip, .skip, .g (.env 12 (C.v (vB true)))])
        (ps := [C.v (vB (!has0)) = C.v (vB true), C.v (vB (decide (n1 = 0))) = C.v (vB true), (.bx [(vI .i64 cap0)] : V) = .bx [(vI .i64 cap0)], (true : Bool) = true])
        (by kernel_rfl) ⟨vbB h1, vbB h2, rfl, rfl, trivial⟩ rfl (fun _ _ h => h)
    · 
      rcases cond_cases h with ⟨h3, h⟩ | ⟨h3, h⟩
      · 
        obtain ⟨r4, h5, h⟩ := bind_cases h
        obtain rfl := Option.some.inj h
        exact runRet_S (r := ⟨Try.f258.results.toList, _, _, _, [], 9⟩) (n := 100000) (c := (.code (bod Try.f258))) (K := [])
          (hs := [hA, .skip, .g (.env 8 (C.v (vB true))), hA, .skip, .skip, .g (.env 12 (C.v (vB false))), .skip, .skip, .g (.env 14 (C.v (vB true))), hA, hA, .call ⟨[.ro, .ro, .ro], 9, [], true, [], (vB r4), [], 1⟩])
          (ps := [C.v (vB (!has0)) = C.v (vB true), C.v (vB (decide (n1 = 0))) = C.v (vB false), C.v (vB has0) = C.v (vB true), CallOK Try.prog 97 [.ro (vI .i64 n1), .ro (vI .i64 0), .ro (vI .i64 (w64 (cap0 - 1)))] [] (vB r4), (.bx [(vI .i64 cap0)] : V) = .bx [(vI .i64 cap0)], (r4 : Bool) = r4])
          (by kernel_rfl) ⟨vbB h1, vbB h2, vbB h3, F97.fn_c fuel n1 0 (w64 (cap0 - 1)) _ h5, rfl, rfl, trivial⟩ rfl (fun _ _ h => h)
      · 
        obtain rfl := Option.some.inj h
        exact runRet_S (r := ⟨Try.f258.results.toList, _, _, _, [], 9⟩) (n := 100000) (c := (.code (bod Try.f258))) (K := [])
          (hs := [hA, .skip, .g (.env 8 (C.v (vB true))), hA, .skip, .skip, .g (.env 12 (C.v (vB false))), .skip, .skip, .g (.env 14 (C.v (vB false)))])
          (ps := [C.v (vB (!has0)) = C.v (vB true), C.v (vB (decide (n1 = 0))) = C.v (vB false), C.v (vB has0) = C.v (vB false), (.bx [(vI .i64 cap0)] : V) = .bx [(vI .i64 cap0)], (false : Bool) = false])
          (by kernel_rfl) ⟨vbB h1, vbB h2, vbB h3, rfl, rfl, trivial⟩ rfl (fun _ _ h => h)
  · 
    rcases cond_cases h with ⟨h6, h⟩ | ⟨h6, h⟩
    · 
      obtain ⟨r7, h8, h⟩ := bind_cases h
      obtain rfl := Option.some.inj h
      exact runRet_S (r := ⟨Try.f258.results.toList, _, _, _, [], 9⟩) (n := 100000) (c := (.code (bod Try.f258))) (K := [])
        (hs := [hA, .skip, .g (.env 8 (C.v (vB false))), .skip, .skip, .skip, .skip, .skip, .skip, .g (.env 14 (C.v (vB true))), hA, hA, .call ⟨[.ro, .ro, .ro], 9, [], true, [], (vB r7), [], 1⟩])
        (ps := [C.v (vB (!has0)) = C.v (vB false), C.v (vB has0) = C.v (vB true), CallOK Try.prog 97 [.ro (vI .i64 n1), .ro (vI .i64 0), .ro (vI .i64 (w64 (cap0 - 1)))] [] (vB r7), (.bx [(vI .i64 cap0)] : V) = .bx [(vI .i64 cap0)], (r7 : Bool) = r7])
        (by kernel_rfl) ⟨vbB h1, vbB h6, F97.fn_c fuel n1 0 (w64 (cap0 - 1)) _ h8, rfl, rfl, trivial⟩ rfl (fun _ _ h => h)
    · 
      obtain rfl := Option.some.inj h
      exact runRet_S (r := ⟨Try.f258.results.toList, _, _, _, [], 9⟩) (n := 100000) (c := (.code (bod Try.f258))) (K := [])
        (hs := [hA, .skip, .g (.env 8 (C.v (vB false))), .skip, .skip, .skip, .skip, .skip, .skip, .g (.env 14 (C.v (vB false)))])
        (ps := [C.v (vB (!has0)) = C.v (vB false), C.v (vB has0) = C.v (vB false), (.bx [(vI .i64 cap0)] : V) = .bx [(vI .i64 cap0)], (false : Bool) = false])
        (by kernel_rfl) ⟨vbB h1, vbB h6, rfl, rfl, trivial⟩ rfl (fun _ _ h => h)
end F258
namespace F217
/-! impl.flatOK -/
noncomputable def K0 := (subC [1, 1, 1, 0, 0] (bod Try.f217) []).2
noncomputable def B0 := (subC [1, 1, 1, 0, 0] (bod Try.f217) []).1
def I0 (x3 : Int) (x4 : Int) (x5 : Int) (x6 : Int) (x7 : Int) (x8 : Int) (f9 : Bool) (f10 : Bool) (f11 : Bool) (f12 : Bool) (f13 : Bool) (ok14 : Bool) (name15 : Int) : TL := ⟨80, [C.dead, C.dead], [(2, C.pr 0 0), (5, C.pr 1 0), (6, C.v (vB ok14)), (7, C.fn 258 [C.pr 2 0])], [], [(0, [C.own (vI .i64 x3), C.own (vI .i64 x4), C.own (vI .i64 x5), C.own (vI .i64 x6), C.own (vI .i64 x7), C.own (vI .i64 x8)]), (1, [C.own (vB f9), C.own (vB f10), C.own (vB f11), C.own (vB f12), C.own (vB f13)]), (2, [C.own (vI .i64 name15)])]⟩
def J0_0 (x3 : Int) (x4 : Int) (x5 : Int) (x6 : Int) (x7 : Int) (x8 : Int) (f9 : Bool) (f10 : Bool) (f11 : Bool) (f12 : Bool) (f13 : Bool) (ok14 : Bool) (name15 : Int) (o : Bool) : TL := ⟨80, [C.dead, C.dead], [(2, C.pr 0 0), (5, C.pr 1 0), (43, C.v (vB o))], [], [(0, [C.own (vI .i64 x3), C.own (vI .i64 x4), C.own (vI .i64 x5), C.own (vI .i64 x6), C.own (vI .i64 x7), C.own (vI .i64 x8)]), (1, [C.own (vB f9), C.own (vB f10), C.own (vB f11), C.own (vB f12), C.own (vB f13)])]⟩
def Q0 (x3 : Int) (x4 : Int) (x5 : Int) (x6 : Int) (x7 : Int) (x8 : Int) (f9 : Bool) (f10 : Bool) (f11 : Bool) (f12 : Bool) (f13 : Bool) (ok14 : Bool) (name15 : Int) (r : Bool) (e : Exit) (st : St) : Prop := (fun o => e = .normal ∧ Le st (J0_0 x3 x4 x5 x6 x7 x8 f9 f10 f11 f12 f13 ok14 name15 o).sl.st) r
def p0 (fuel : Nat) (x3 : Int) (x4 : Int) (x5 : Int) (x6 : Int) (x7 : Int) (x8 : Int) (f9 : Bool) (f10 : Bool) (f11 : Bool) (f12 : Bool) (f13 : Bool) (ok14 : Bool) (name15 : Int) : Option Bool :=
  cond (!ok14)
  (some true)
  ((F258.fn fuel f9 x5 name15).bind fun r17 =>
    cond (!r17.1)
    (some true)
    ((F258.fn fuel f10 x6 r17.2).bind fun r20 =>
      cond (!r20.1)
      (some true)
      ((F258.fn fuel f11 x7 r20.2).bind fun r23 =>
        some (!r23.1))))
theorem p0_c (fuel : Nat) (x3 : Int) (x4 : Int) (x5 : Int) (x6 : Int) (x7 : Int) (x8 : Int) (f9 : Bool) (f10 : Bool) (f11 : Bool) (f12 : Bool) (f13 : Bool) (ok14 : Bool) (name15 : Int) (r : Bool) (h : p0 fuel x3 x4 x5 x6 x7 x8 f9 f10 f11 f12 f13 ok14 name15 = some r) : TW Try.prog B0 (I0 x3 x4 x5 x6 x7 x8 f9 f10 f11 f12 f13 ok14 name15).sl.st (Q0 x3 x4 x5 x6 x7 x8 f9 f10 f11 f12 f13 ok14 name15 r) := by
  unfold p0 at h
  rcases cond_cases h with ⟨h16, h⟩ | ⟨h16, h⟩
  · 
    obtain rfl := Option.some.inj h
    exact runAt_S (Q := Q0 x3 x4 x5 x6 x7 x8 f9 f10 f11 f12 f13 ok14 name15 _) (n := 100000) (c := (.code B0)) (K := []) (s := (I0 x3 x4 x5 x6 x7 x8 f9 f10 f11 f12 f13 ok14 name15).sl) (e := .normal) (t := J0_0 x3 x4 x5 x6 x7 x8 f9 f10 f11 f12 f13 ok14 name15 true) (l := [(0, 0), (1, 1)])
      (hs := [hA, .skip, .g (.env 17 (C.v (vB true)))])
      (ps := [C.v (vB (!ok14)) = C.v (vB true), 0 = 0, 0 = 0, (true : Bool) = true, (x3 : Int) = x3, (x4 : Int) = x4, (x5 : Int) = x5, (x6 : Int) = x6, (x7 : Int) = x7, (x8 : Int) = x8, (f9 : Bool) = f9, (f10 : Bool) = f10, (f11 : Bool) = f11, (f12 : Bool) = f12, (f13 : Bool) = f13])
      (by kernel_rfl) ⟨vbB h16, rfl, rfl, rfl, rfl, rfl, rfl, rfl, rfl, rfl, rfl, rfl, rfl, rfl, rfl, trivial⟩ (fun st hl => ⟨rfl, hl⟩)
  · 
    obtain ⟨r17, h18, h⟩ := bind_cases h
    rcases cond_cases h with ⟨h19, h⟩ | ⟨h19, h⟩
    · 
      obtain rfl := Option.some.inj h
      exact runAt_S (Q := Q0 x3 x4 x5 x6 x7 x8 f9 f10 f11 f12 f13 ok14 name15 _) (n := 100000) (c := (.code B0)) (K := []) (s := (I0 x3 x4 x5 x6 x7 x8 f9 f10 f11 f12 f13 ok14 name15).sl) (e := .normal) (t := J0_0 x3 x4 x5 x6 x7 x8 f9 f10 f11 f12 f13 ok14 name15 true) (l := [(0, 0), (1, 1)])
        (hs := [hA, .skip, .g (.env 17 (C.v (vB false))), hA, hA, .call ⟨[.ro, .ro, (.io none)], 9, [], true, [(.bx [(vI .i64 r17.2)])], (vB r17.1), [[C.own (vI .i64 r17.2)]], 3⟩, hA, .skip, .skip, .g (.env 26 (C.v (vB true)))])
        (ps := [C.v (vB (!ok14)) = C.v (vB false), CallOK Try.prog 258 [.ro (vB f9), .ro (vI .i64 x5), .io (.bx [(vI .i64 name15)])] [(.bx [(vI .i64 r17.2)])] (vB r17.1), ([(vI .i64 r17.2)] : List V).length = 1, ([(vI .i64 r17.2)] : List V).length = 1 ∨ ([C.own (vI .i64 name15)] : List C).length ≤ 0 + 1, ([C.own (vI .i64 name15)] : List C).take 0 ++ ([(vI .i64 r17.2)] : List V).map C.own ++ ([C.own (vI .i64 name15)] : List C).drop (0 + 1) = [C.own (vI .i64 r17.2)], C.v (vB (!r17.1)) = C.v (vB true), 0 = 0, 0 = 0, (true : Bool) = true, (x3 : Int) = x3, (x4 : Int) = x4, (x5 : Int) = x5, (x6 : Int) = x6, (x7 : Int) = x7, (x8 : Int) = x8, (f9 : Bool) = f9, (f10 : Bool) = f10, (f11 : Bool) = f11, (f12 : Bool) = f12, (f13 : Bool) = f13])
        (by kernel_rfl) ⟨vbB h16, F258.fn_c fuel f9 x5 name15 _ h18, rfl, .inl rfl, rfl, vbB h19, rfl, rfl, rfl, rfl, rfl, rfl, rfl, rfl, rfl, rfl, rfl, rfl, rfl, rfl, trivial⟩ (fun st hl => ⟨rfl, hl⟩)
    · 
      obtain ⟨r20, h21, h⟩ := bind_cases h
      rcases cond_cases h with ⟨h22, h⟩ | ⟨h22, h⟩
      · 
        obtain rfl := Option.some.inj h
        exact runAt_S (Q := Q0 x3 x4 x5 x6 x7 x8 f9 f10 f11 f12 f13 ok14 name15 _) (n := 100000) (c := (.code B0)) (K := []) (s := (I0 x3 x4 x5 x6 x7 x8 f9 f10 f11 f12 f13 ok14 name15).sl) (e := .normal) (t := J0_0 x3 x4 x5 x6 x7 x8 f9 f10 f11 f12 f13 ok14 name15 true) (l := [(0, 0), (1, 1)])
          (hs := [hA, .skip, .g (.env 17 (C.v (vB false))), hA, hA, .call ⟨[.ro, .ro, (.io none)], 9, [], true, [(.bx [(vI .i64 r17.2)])], (vB r17.1), [[C.own (vI .i64 r17.2)]], 3⟩, hA, .skip, .skip, .g (.env 26 (C.v (vB false))), hA, hA, .call ⟨[.ro, .ro, (.io none)], 9, [], true, [(.bx [(vI .i64 r20.2)])], (vB r20.1), [[C.own (vI .i64 r20.2)]], 3⟩, hA, .skip, .skip, .g (.env 35 (C.v (vB true)))])
          (ps := [C.v (vB (!ok14)) = C.v (vB false), CallOK Try.prog 258 [.ro (vB f9), .ro (vI .i64 x5), .io (.bx [(vI .i64 name15)])] [(.bx [(vI .i64 r17.2)])] (vB r17.1), ([(vI .i64 r17.2)] : List V).length = 1, ([(vI .i64 r17.2)] : List V).length = 1 ∨ ([C.own (vI .i64 name15)] : List C).length ≤ 0 + 1, ([C.own (vI .i64 name15)] : List C).take 0 ++ ([(vI .i64 r17.2)] : List V).map C.own ++ ([C.own (vI .i64 name15)] : List C).drop (0 + 1) = [C.own (vI .i64 r17.2)], C.v (vB (!r17.1)) = C.v (vB false), CallOK Try.prog 258 [.ro (vB f10), .ro (vI .i64 x6), .io (.bx [(vI .i64 r17.2)])] [(.bx [(vI .i64 r20.2)])] (vB r20.1), ([(vI .i64 r20.2)] : List V).length = 1, ([(vI .i64 r20.2)] : List V).length = 1 ∨ ([C.own (vI .i64 r17.2)] : List C).length ≤ 0 + 1, ([C.own (vI .i64 r17.2)] : List C).take 0 ++ ([(vI .i64 r20.2)] : List V).map C.own ++ ([C.own (vI .i64 r17.2)] : List C).drop (0 + 1) = [C.own (vI .i64 r20.2)], C.v (vB (!r20.1)) = C.v (vB true), 0 = 0, 0 = 0, (true : Bool) = true, (x3 : Int) = x3, (x4 : Int) = x4, (x5 : Int) = x5, (x6 : Int) = x6, (x7 : Int) = x7, (x8 : Int) = x8, (f9 : Bool) = f9, (f10 : Bool) = f10, (f11 : Bool) = f11, (f12 : Bool) = f12, (f13 : Bool) = f13])
          (by kernel_rfl) ⟨vbB h16, F258.fn_c fuel f9 x5 name15 _ h18, rfl, .inl rfl, rfl, vbB h19, F258.fn_c fuel f10 x6 r17.2 _ h21, rfl, .inl rfl, rfl, vbB h22, rfl, rfl, rfl, rfl, rfl, rfl, rfl, rfl, rfl, rfl, rfl, rfl, rfl, rfl, trivial⟩ (fun st hl => ⟨rfl, hl⟩)
      · 
        obtain ⟨r23, h24, h⟩ := bind_cases h
        obtain rfl := Option.some.inj h
        exact runAt_S (Q := Q0 x3 x4 x5 x6 x7 x8 f9 f10 f11 f12 f13 ok14 name15 _) (n := 100000) (c := (.code B0)) (K := []) (s := (I0 x3 x4 x5 x6 x7 x8 f9 f10 f11 f12 f13 ok14 name15).sl) (e := .normal) (t := J0_0 x3 x4 x5 x6 x7 x8 f9 f10 f11 f12 f13 ok14 name15 (!r23.1)) (l := [(0, 0), (1, 1)])
          (hs := [hA, .skip, .g (.env 17 (C.v (vB false))), hA, hA, .call ⟨[.ro, .ro, (.io none)], 9, [], true, [(.bx [(vI .i64 r17.2)])], (vB r17.1), [[C.own (vI .i64 r17.2)]], 3⟩, hA, .skip, .skip, .g (.env 26 (C.v (vB false))), hA, hA, .call ⟨[.ro, .ro, (.io none)], 9, [], true, [(.bx [(vI .i64 r20.2)])], (vB r20.1), [[C.own (vI .i64 r20.2)]], 3⟩, hA, .skip, .skip, .g (.env 35 (C.v (vB false))), hA, hA, .call ⟨[.ro, .ro, (.io none)], 9, [], true, [(.bx [(vI .i64 r23.2)])], (vB r23.1), [[C.own (vI .i64 r23.2)]], 3⟩, hA])
          (ps := [C.v (vB (!ok14)) = C.v (vB false), CallOK Try.prog 258 [.ro (vB f9), .ro (vI .i64 x5), .io (.bx [(vI .i64 name15)])] [(.bx [(vI .i64 r17.2)])] (vB r17.1), ([(vI .i64 r17.2)] : List V).length = 1, ([(vI .i64 r17.2)] : List V).length = 1 ∨ ([C.own (vI .i64 name15)] : List C).length ≤ 0 + 1, ([C.own (vI .i64 name15)] : List C).take 0 ++ ([(vI .i64 r17.2)] : List V).map C.own ++ ([C.own (vI .i64 name15)] : List C).drop (0 + 1) = [C.own (vI .i64 r17.2)], C.v (vB (!r17.1)) = C.v (vB false), CallOK Try.prog 258 [.ro (vB f10), .ro (vI .i64 x6), .io (.bx [(vI .i64 r17.2)])] [(.bx [(vI .i64 r20.2)])] (vB r20.1), ([(vI .i64 r20.2)] : List V).length = 1, ([(vI .i64 r20.2)] : List V).length = 1 ∨ ([C.own (vI .i64 r17.2)] : List C).length ≤ 0 + 1, ([C.own (vI .i64 r17.2)] : List C).take 0 ++ ([(vI .i64 r20.2)] : List V).map C.own ++ ([C.own (vI .i64 r17.2)] : List C).drop (0 + 1) = [C.own (vI .i64 r20.2)], C.v (vB (!r20.1)) = C.v (vB false), CallOK Try.prog 258 [.ro (vB f11), .ro (vI .i64 x7), .io (.bx [(vI .i64 r20.2)])] [(.bx [(vI .i64 r23.2)])] (vB r23.1), ([(vI .i64 r23.2)] : List V).length = 1, ([(vI .i64 r23.2)] : List V).length = 1 ∨ ([C.own (vI .i64 r20.2)] : List C).length ≤ 0 + 1, ([C.own (vI .i64 r20.2)] : List C).take 0 ++ ([(vI .i64 r23.2)] : List V).map C.own ++ ([C.own (vI .i64 r20.2)] : List C).drop (0 + 1) = [C.own (vI .i64 r23.2)], 0 = 0, 0 = 0, (!r23.1 : Bool) = (!r23.1), (x3 : Int) = x3, (x4 : Int) = x4, (x5 : Int) = x5, (x6 : Int) = x6, (x7 : Int) = x7, (x8 : Int) = x8, (f9 : Bool) = f9, (f10 : Bool) = f10, (f11 : Bool) = f11, (f12 : Bool) = f12, (f13 : Bool) = f13])
          (by kernel_rfl) ⟨vbB h16, F258.fn_c fuel f9 x5 name15 _ h18, rfl, .inl rfl, rfl, vbB h19, F258.fn_c fuel f10 x6 r17.2 _ h21, rfl, .inl rfl, rfl, vbB h22, F258.fn_c fuel f11 x7 r20.2 _ h24, rfl, .inl rfl, rfl, rfl, rfl, rfl, rfl, rfl, rfl, rfl, rfl, rfl, rfl, rfl, rfl, rfl, rfl, trivial⟩ (fun st hl => ⟨rfl, hl⟩)
def fn (fuel : Nat) (x0 : T131) (many1 : Int) : Option Bool :=
  (F220.fn fuel x0.f0).bind fun r1 =>
  (p0 fuel x0.f0 x0.f1 x0.f2 x0.f3 x0.f4 x0.f5 r1.1.f0 r1.1.f1 r1.1.f2 r1.1.f3 r1.1.f4 r1.2 many1).bind fun r25 =>
  cond (r25)
  (some false)
  (cond (r1.1.f3)
    ((F205.fn fuel x0.f5).bind fun r29 =>
      cond (r29)
      (cond (r1.1.f4)
        ((F243.fn fuel x0.f1).bind fun r33 =>
          cond (r33)
          (some true)
          (cond (!r1.1.f4)
            (some (decide (x0.f1 = 0)))
            (some false)))
        (cond (!r1.1.f4)
          (some (decide (x0.f1 = 0)))
          (some false)))
      (cond (!r1.1.f3)
        (cond (decide (x0.f5 = 0))
          (cond (r1.1.f4)
            ((F243.fn fuel x0.f1).bind fun r41 =>
              cond (r41)
              (some true)
              (cond (!r1.1.f4)
                (some (decide (x0.f1 = 0)))
                (some false)))
            (cond (!r1.1.f4)
              (some (decide (x0.f1 = 0)))
              (some false)))
          (some false))
        (some false)))
    (cond (!r1.1.f3)
      (cond (decide (x0.f5 = 0))
        (cond (r1.1.f4)
          ((F243.fn fuel x0.f1).bind fun r49 =>
            cond (r49)
            (some true)
            (cond (!r1.1.f4)
              (some (decide (x0.f1 = 0)))
              (some false)))
          (cond (!r1.1.f4)
            (some (decide (x0.f1 = 0)))
            (some false)))
        (some false))
      (some false)))
theorem ent : enterable Try.prog 217 = true := by kernel_rfl
theorem fn_c (fuel : Nat) (x0 : T131) (many1 : Int) (r : Bool) (h : fn fuel x0 many1 = some r) : CallOK Try.prog 217 [.ro (.ag (eT131.f x0)), .ro (vI .i64 many1)] [] (vB r) := by
  refine contract_run Try.func217 (b := bod Try.f217) rfl ent ?_
  unfold fn at h
  obtain ⟨r1, h2, h⟩ := bind_cases h
  obtain ⟨r25, h26, h⟩ := bind_cases h
  refine runTo_S (n := 11) (c := (.code (bod Try.f217))) (K := []) (b := (.code B0)) (K1 := K0) (t := I0 x0.f0 x0.f1 x0.f2 x0.f3 x0.f4 x0.f5 r1.1.f0 r1.1.f1 r1.1.f2 r1.1.f3 r1.1.f4 r1.2 many1) (l := [(0, 0), (1, 2), (2, 1)])
    (hs := [.h (.new 0), .h (.new 1), hA, .call ⟨[.ro], 9, [], true, [], (.tp [(.ag (eT243.f r1.1)), (vB r1.2)]), [], 2⟩, .h (.new 2), hA])
    (ps := [CallOK Try.prog 220 [.ro (vI .i64 x0.f0)] [] (.tp [(.ag (eT243.f r1.1)), (vB r1.2)]), 0 = 0, 0 = 0, (r1.2 : Bool) = r1.2, 0 = 0, (x0.f0 : Int) = x0.f0, (x0.f1 : Int) = x0.f1, (x0.f2 : Int) = x0.f2, (x0.f3 : Int) = x0.f3, (x0.f4 : Int) = x0.f4, (x0.f5 : Int) = x0.f5, (r1.1.f0 : Bool) = r1.1.f0, (r1.1.f1 : Bool) = r1.1.f1, (r1.1.f2 : Bool) = r1.1.f2, (r1.1.f3 : Bool) = r1.1.f3, (r1.1.f4 : Bool) = r1.1.f4, (many1 : Int) = many1])
    (by kernel_rfl) ⟨F220.fn_c fuel x0.f0 _ h2, rfl, rfl, rfl, rfl, rfl, rfl, rfl, rfl, rfl, rfl, rfl, rfl, rfl, rfl, rfl, rfl, trivial⟩ (cut_code ?_)
  refine TW.mono_le (p0_c fuel x0.f0 x0.f1 x0.f2 x0.f3 x0.f4 x0.f5 r1.1.f0 r1.1.f1 r1.1.f2 r1.1.f3 r1.1.f4 r1.2 many1 _ h26) ?_
  rintro e st hq
  obtain ⟨rfl, hl⟩ := hq
  refine ⟨_, hl, ?_⟩
  rcases cond_cases h with ⟨h27, h⟩ | ⟨h27, h⟩
  · 
    obtain rfl := Option.some.inj h
    exact runRet_S (r := ⟨Try.f217.results.toList, _, _, _, [], 9⟩) (n := 100000) (c := (.out .normal)) (K := K0) (s := (J0_0 x0.f0 x0.f1 x0.f2 x0.f3 x0.f4 x0.f5 r1.1.f0 r1.1.f1 r1.1.f2 r1.1.f3 r1.1.f4 r1.2 many1 r25).sl)
      (hs := [.g (.env 43 (C.v (vB true)))])
      (ps := [C.v (vB r25) = C.v (vB true), (false : Bool) = false])
      (by kernel_rfl) ⟨vbB h27, rfl, trivial⟩ rfl (fun _ _ h => h)
  · 
    rcases cond_cases h with ⟨h28, h⟩ | ⟨h28, h⟩
    · 
      obtain ⟨r29, h30, h⟩ := bind_cases h
      rcases cond_cases h with ⟨h31, h⟩ | ⟨h31, h⟩
      · 
        rcases cond_cases h with ⟨h32, h⟩ | ⟨h32, h⟩
        · 
          obtain ⟨r33, h34, h⟩ := bind_cases h
          rcases cond_cases h with ⟨h35, h⟩ | ⟨h35, h⟩
          · 
            obtain rfl := Option.some.inj h
            exact runRet_S (r := ⟨Try.f217.results.toList, _, _, _, [], 9⟩) (n := 100000) (c := (.out .normal)) (K := K0) (s := (J0_0 x0.f0 x0.f1 x0.f2 x0.f3 x0.f4 x0.f5 r1.1.f0 r1.1.f1 r1.1.f2 r1.1.f3 r1.1.f4 r1.2 many1 r25).sl)
              (hs := [.g (.env 43 (C.v (vB false))), hA, .skip, .g (.env 46 (C.v (vB true))), hA, .call ⟨[.ro], 9, [], true, [], (vB r29), [], 2⟩, .skip, .skip, .g (.env 51 (C.v (vB true))), hA, .skip, .g (.env 64 (C.v (vB true))), hA, .call ⟨[.ro], 9, [], true, [], (vB r33), [], 2⟩, .skip, .skip, .g (.env 69 (C.v (vB true)))])
              (ps := [C.v (vB r25) = C.v (vB false), C.v (vB r1.1.f3) = C.v (vB true), CallOK Try.prog 205 [.ro (vI .i64 x0.f5)] [] (vB r29), C.v (vB r29) = C.v (vB true), C.v (vB r1.1.f4) = C.v (vB true), CallOK Try.prog 243 [.ro (vI .i64 x0.f1)] [] (vB r33), C.v (vB r33) = C.v (vB true), (true : Bool) = true])
              (by kernel_rfl) ⟨vbB h27, vbB h28, F205.fn_c fuel x0.f5 _ h30, vbB h31, vbB h32, F243.fn_c fuel x0.f1 _ h34, vbB h35, rfl, trivial⟩ rfl (fun _ _ h => h)
          · 
            rcases cond_cases h with ⟨h36, h⟩ | ⟨h36, h⟩
            · 
              obtain rfl := Option.some.inj h
              exact runRet_S (r := ⟨Try.f217.results.toList, _, _, _, [], 9⟩) (n := 100000) (c := (.out .normal)) (K := K0) (s := (J0_0 x0.f0 x0.f1 x0.f2 x0.f3 x0.f4 x0.f5 r1.1.f0 r1.1.f1 r1.1.f2 r1.1.f3 r1.1.f4 r1.2 many1 r25).sl)
                (hs := [.g (.env 43 (C.v (vB false))), hA, .skip, .g (.env 46 (C.v (vB true))), hA, .call ⟨[.ro], 9, [], true, [], (vB r29), [], 2⟩, .skip, .skip, .g (.env 51 (C.v (vB true))), hA, .skip, .g (.env 64 (C.v (vB true))), hA, .call ⟨[.ro], 9, [], true, [], (vB r33), [], 2⟩, .skip, .skip, .g (.env 69 (C.v (vB false))), hA, hA, .skip, .g (.env 73 (C.v (vB true))), hA, hA])
                (ps := [C.v (vB r25) = C.v (vB false), C.v (vB r1.1.f3) = C.v (vB true), CallOK Try.prog 205 [.ro (vI .i64 x0.f5)] [] (vB r29), C.v (vB r29) = C.v (vB true), C.v (vB r1.1.f4) = C.v (vB true), CallOK Try.prog 243 [.ro (vI .i64 x0.f1)] [] (vB r33), C.v (vB r33) = C.v (vB false), C.v (vB (!r1.1.f4)) = C.v (vB true), (decide (x0.f1 = 0) : Bool) = (decide (x0.f1 = 0))])
                (by kernel_rfl) ⟨vbB h27, vbB h28, F205.fn_c fuel x0.f5 _ h30, vbB h31, vbB h32, F243.fn_c fuel x0.f1 _ h34, vbB h35, vbB h36, rfl, trivial⟩ rfl (fun _ _ h => h)
            · 
              obtain rfl := Option.some.inj h
              exact runRet_S (r := ⟨Try.f217.results.toList, _, _, _, [], 9⟩) (n := 100000) (c := (.out .normal)) (K := K0) (s := (J0_0 x0.f0 x0.f1 x0.f2 x0.f3 x0.f4 x0.f5 r1.1.f0 r1.1.f1 r1.1.f2 r1.1.f3 r1.1.f4 r1.2 many1 r25).sl)
                (hs := [.g (.env 43 (C.v (vB false))), hA, .skip, .g (.env 46 (C.v (vB true))), hA, .call ⟨[.ro], 9, [], true, [], (vB r29), [], 2⟩, .skip, .skip, .g (.env 51 (C.v (vB true))), hA, .skip, .g (.env 64 (C.v (vB true))), hA, .call ⟨[.ro], 9, [], true, [], (vB r33), [], 2⟩, .skip, .skip, .g (.env 69 (C.v (vB false))), hA, hA, .skip, .g (.env 73 (C.v (vB false)))])
                (ps := [C.v (vB r25) = C.v (vB false), C.v (vB r1.1.f3) = C.v (vB true), CallOK Try.prog 205 [.ro (vI .i64 x0.f5)] [] (vB r29), C.v (vB r29) = C.v (vB true), C.v (vB r1.1.f4) = C.v (vB true), CallOK Try.prog 243 [.ro (vI .i64 x0.f1)] [] (vB r33), C.v (vB r33) = C.v (vB false), C.v (vB (!r1.1.f4)) = C.v (vB false), (false : Bool) = false])
                (by kernel_rfl) ⟨vbB h27, vbB h28, F205.fn_c fuel x0.f5 _ h30, vbB h31, vbB h32, F243.fn_c fuel x0.f1 _ h34, vbB h35, vbB h36, rfl, trivial⟩ rfl (fun _ _ h => h)
        · 
          rcases cond_cases h with ⟨h37, h⟩ | ⟨h37, h⟩
          · 
            obtain rfl := Option.some.inj h
            exact runRet_S (r := ⟨Try.f217.results.toList, _, _, _, [], 9⟩) (n := 100000) (c := (.out .normal)) (K := K0) (s := (J0_0 x0.f0 x0.f1 x0.f2 x0.f3 x0.f4 x0.f5 r1.1.f0 r1.1.f1 r1.1.f2 r1.1.f3 r1.1.f4 r1.2 many1 r25).sl)
              (hs := [.g (.env 43 (C.v (vB false))), hA, .skip, .g (.env 46 (C.v (vB true))), hA, .call ⟨[.ro], 9, [], true, [], (vB r29), [], 2⟩, .skip, .skip, .g (.env 51 (C.v (vB true))), hA, .skip, .g (.env 64 (C.v (vB false))), hA, hA, .skip, .g (.env 73 (C.v (vB true))), hA, hA])
              (ps := [C.v (vB r25) = C.v (vB false), C.v (vB r1.1.f3) = C.v (vB true), CallOK Try.prog 205 [.ro (vI .i64 x0.f5)] [] (vB r29), C.v (vB r29) = C.v (vB true), C.v (vB r1.1.f4) = C.v (vB false), C.v (vB (!r1.1.f4)) = C.v (vB true), (decide (x0.f1 = 0) : Bool) = (decide (x0.f1 = 0))])
              (by kernel_rfl) ⟨vbB h27, vbB h28, F205.fn_c fuel x0.f5 _ h30, vbB h31, vbB h32, vbB h37, rfl, trivial⟩ rfl (fun _ _ h => h)
          · 
            obtain rfl := Option.some.inj h
            exact runRet_S (r := ⟨Try.f217.results.toList, _, _, _, [], 9⟩) (n := 100000) (c := (.out .normal)) (K := K0) (s := (J0_0 x0.f0 x0.f1 x0.f2 x0.f3 x0.f4 x0.f5 r1.1.f0 r1.1.f1 r1.1.f2 r1.1.f3 r1.1.f4 r1.2 many1 r25).sl)
              (hs := [.g (.env 43 (C.v (vB false))), hA, .skip, .g (.env 46 (C.v (vB true))), hA, .call ⟨[.ro], 9, [], true, [], (vB r29), [], 2⟩, .skip, .skip, .g (.env 51 (C.v (vB true))), hA, .skip, .g (.env 64 (C.v (vB false))), hA, hA, .skip, .g (.env 73 (C.v (vB false)))])
              (ps := [C.v (vB r25) = C.v (vB false), C.v (vB r1.1.f3) = C.v (vB true), CallOK Try.prog 205 [.ro (vI .i64 x0.f5)] [] (vB r29), C.v (vB r29) = C.v (vB true), C.v (vB r1.1.f4) = C.v (vB false), C.v (vB (!r1.1.f4)) = C.v (vB false), (false : Bool) = false])
              (by kernel_rfl) ⟨vbB h27, vbB h28, F205.fn_c fuel x0.f5 _ h30, vbB h31, vbB h32, vbB h37, rfl, trivial⟩ rfl (fun _ _ h => h)
      · 
        rcases cond_cases h with ⟨h38, h⟩ | ⟨h38, h⟩
        · 
          rcases cond_cases h with ⟨h39, h⟩ | ⟨h39, h⟩
          · 
            rcases cond_cases h with ⟨h40, h⟩ | ⟨h40, h⟩
            · 
              obtain ⟨r41, h42, h⟩ := bind_cases h
              rcases cond_cases h with ⟨h43, h⟩ | ⟨h43, h⟩
              · 
                obtain rfl := Option.some.inj h
                exact runRet_S (r := ⟨Try.f217.results.toList, _, _, _, [], 9⟩) (n := 100000) (c := (.out .normal)) (K := K0) (s := (J0_0 x0.f0 x0.f1 x0.f2 x0.f3 x0.f4 x0.f5 r1.1.f0 r1.1.f1 r1.1.f2 r1.1.f3 r1.1.f4 r1.2 many1 r25).sl)
                  (hs := [.g (.env 43 (C.v (vB false))), hA, .skip, .g (.env 46 (C.v (vB true))), hA, .call ⟨[.ro], 9, [], true, [], (vB r29), [], 2⟩, .skip, .skip, .g (.env 51 (C.v (vB false))), hA, hA, .skip, .g (.env 55 (C.v (vB true))), hA, hA, .skip, .skip, .skip, .g (.env 61 (C.v (vB true))), hA, .skip, .g (.env 64 (C.v (vB true))), hA, .call ⟨[.ro], 9, [], true, [], (vB r41), [], 2⟩, .skip, .skip, .g (.env 69 (C.v (vB true)))])
                  (ps := [C.v (vB r25) = C.v (vB false), C.v (vB r1.1.f3) = C.v (vB true), CallOK Try.prog 205 [.ro (vI .i64 x0.f5)] [] (vB r29), C.v (vB r29) = C.v (vB false), C.v (vB (!r1.1.f3)) = C.v (vB true), C.v (vB (decide (x0.f5 = 0))) = C.v (vB true), C.v (vB r1.1.f4) = C.v (vB true), CallOK Try.prog 243 [.ro (vI .i64 x0.f1)] [] (vB r41), C.v (vB r41) = C.v (vB true), (true : Bool) = true])
                  (by kernel_rfl) ⟨vbB h27, vbB h28, F205.fn_c fuel x0.f5 _ h30, vbB h31, vbB h38, vbB h39, vbB h40, F243.fn_c fuel x0.f1 _ h42, vbB h43, rfl, trivial⟩ rfl (fun _ _ h => h)
              · 
                rcases cond_cases h with ⟨h44, h⟩ | ⟨h44, h⟩
                · 
                  obtain rfl := Option.some.inj h
                  exact runRet_S (r := ⟨Try.f217.results.toList, _, _, _, [], 9⟩) (n := 100000) (c := (.out .normal)) (K := K0) (s := (J0_0 x0.f0 x0.f1 x0.f2 x0.f3 x0.f4 x0.f5 r1.1.f0 r1.1.f1 r1.1.f2 r1.1.f3 r1.1.f4 r1.2 many1 r25).sl)
                    (hs := [.g (.env 43 (C.v (vB false))), hA, .skip, .g (.env 46 (C.v (vB true))), hA, .call ⟨[.ro], 9, [], true, [], (vB r29), [], 2⟩, .skip, .skip, .g (.env 51 (C.v (vB false))), hA, hA, .skip, .g (.env 55 (C.v (vB true))), hA, hA, .skip, .skip, .skip, .g (.env 61 (C.v (vB true))), hA, .skip, .g (.env 64 (C.v (vB true))), hA, .call ⟨[.ro], 9, [], true, [], (vB r41), [], 2⟩, .skip, .skip, .g (.env 69 (C.v (vB false))), hA, hA, .skip, .g (.env 73 (C.v (vB true))), hA, hA])
                    (ps := [C.v (vB r25) = C.v (vB false), C.v (vB r1.1.f3) = C.v (vB true), CallOK Try.prog 205 [.ro (vI .i64 x0.f5)] [] (vB r29), C.v (vB r29) = C.v (vB false), C.v (vB (!r1.1.f3)) = C.v (vB true), C.v (vB (decide (x0.f5 = 0))) = C.v (vB true), C.v (vB r1.1.f4) = C.v (vB true), CallOK Try.prog 243 [.ro (vI .i64 x0.f1)] [] (vB r41), C.v (vB r41) = C.v (vB false), C.v (vB (!r1.1.f4)) = C.v (vB true), (decide (x0.f1 = 0) : Bool) = (decide (x0.f1 = 0))])
                    (by kernel_rfl) ⟨vbB h27, vbB h28, F205.fn_c fuel x0.f5 _ h30, vbB h31, vbB h38, vbB h39, vbB h40, F243.fn_c fuel x0.f1 _ h42, vbB h43, vbB h44, rfl, trivial⟩ rfl (fun _ _ h => h)
                · 
                  obtain rfl := Option.some.inj h
                  exact runRet_S (r := ⟨Try.f217.results.toList, _, _, _, [], 9⟩) (n := 100000) (c := (.out .normal)) (K := K0) (s := (J0_0 x0.f0 x0.f1 x0.f2 x0.f3 x0.f4 x0.f5 r1.1.f0 r1.1.f1 r1.1.f2 r1.1.f3 r1.1.f4 r1.2 many1 r25).sl)
                    (hs := [.g (.env 43 (C.v (vB false))), hA, .skip, .g (.env 46 (C.v (vB true))), hA, .call ⟨[.ro], 9, [], true, [], (vB r29), [], 2⟩, .skip, .skip, .g (.env 51 (C.v (vB false))), hA, hA, .skip, .g (.env 55 (C.v (vB true))), hA, hA, .skip, .skip, .skip, .g (.env 61 (C.v (vB true))), hA, .skip, .g (.env 64 (C.v (vB true))), hA, .call ⟨[.ro], 9, [], true, [], (vB r41), [], 2⟩, .skip, .skip, .g (.env 69 (C.v (vB false))), hA, hA, .skip, .g (.env 73 (C.v (vB false)))])
                    (ps := [C.v (vB r25) = C.v (vB false), C.v (vB r1.1.f3) = C.v (vB true), CallOK Try.prog 205 [.ro (vI .i64 x0.f5)] [] (vB r29), C.v (vB r29) = C.v (vB false), C.v (vB (!r1.1.f3)) = C.v (vB true), C.v (vB (decide (x0.f5 = 0))) = C.v (vB true), C.v (vB r1.1.f4) = C.v (vB true), CallOK Try.prog 243 [.ro (vI .i64 x0.f1)] [] (vB r41), C.v (vB r41) = C.v (vB false), C.v (vB (!r1.1.f4)) = C.v (vB false), (false : Bool) = false])
                    (by kernel_rfl) ⟨vbB h27, vbB h28, F205.fn_c fuel x0.f5 _ h30, vbB h31, vbB h38, vbB h39, vbB h40, F243.fn_c fuel x0.f1 _ h42, vbB h43, vbB h44, rfl, trivial⟩ rfl (fun _ _ h => h)
            · 
              rcases cond_cases h with ⟨h45, h⟩ | ⟨h45, h⟩
              · 
                obtain rfl := Option.some.inj h
                exact runRet_S (r := ⟨Try.f217.results.toList, _, _, _, [], 9⟩) (n := 100000) (c := (.out .normal)) (K := K0) (s := (J0_0 x0.f0 x0.f1 x0.f2 x0.f3 x0.f4 x0.f5 r1.1.f0 r1.1.f1 r1.1.f2 r1.1.f3 r1.1.f4 r1.2 many1 r25).sl)
                  (hs := [.g (.env 43 (C.v (vB false))), hA, .skip, .g (.env 46 (C.v (vB true))), hA, .call ⟨[.ro], 9, [], true, [], (vB r29), [], 2⟩, .skip, .skip, .g (.env 51 (C.v (vB false))), hA, hA, .skip, .g (.env 55 (C.v (vB true))), hA, hA, .skip, .skip, .skip, .g (.env 61 (C.v (vB true))), hA, .skip, .g (.env 64 (C.v (vB false))), hA, hA, .skip, .g (.env 73 (C.v (vB true))), hA, hA])
                  (ps := [C.v (vB r25) = C.v (vB false), C.v (vB r1.1.f3) = C.v (vB true), CallOK Try.prog 205 [.ro (vI .i64 x0.f5)] [] (vB r29), C.v (vB r29) = C.v (vB false), C.v (vB (!r1.1.f3)) = C.v (vB true), C.v (vB (decide (x0.f5 = 0))) = C.v (vB true), C.v (vB r1.1.f4) = C.v (vB false), C.v (vB (!r1.1.f4)) = C.v (vB true), (decide (x0.f1 = 0) : Bool) = (decide (x0.f1 = 0))])
                  (by kernel_rfl) ⟨vbB h27, vbB h28, F205.fn_c fuel x0.f5 _ h30, vbB h31, vbB h38, vbB h39, vbB h40, vbB h45, rfl, trivial⟩ rfl (fun _ _ h => h)
              · 
                obtain rfl := Option.some.inj h
                exact runRet_S (r := ⟨Try.f217.results.toList, _, _, _, [], 9⟩) (n := 100000) (c := (.out .normal)) (K := K0) (s := (J0_0 x0.f0 x0.f1 x0.f2 x0.f3 x0.f4 x0.f5 r1.1.f0 r1.1.f1 r1.1.f2 r1.1.f3 r1.1.f4 r1.2 many1 r25).sl)
                  (hs := [.g (.env 43 (C.v (vB false))), hA, .skip, .g (.env 46 (C.v (vB true))), hA, .call ⟨[.ro], 9, [], true, [], (vB r29), [], 2⟩, .skip, .skip, .g (.env 51 (C.v (vB false))), hA, hA, .skip, .g (.env 55 (C.v (vB true))), hA, hA, .skip, .skip, .skip, .g (.env 61 (C.v (vB true))), hA, .skip, .g (.env 64 (C.v (vB false))), hA, hA, .skip, .g (.env 73 (C.v (vB false)))])
                  (ps := [C.v (vB r25) = C.v (vB false), C.v (vB r1.1.f3) = C.v (vB true), CallOK Try.prog 205 [.ro (vI .i64 x0.f5)] [] (vB r29), C.v (vB r29) = C.v (vB false), C.v (vB (!r1.1.f3)) = C.v (vB true), C.v (vB (decide (x0.f5 = 0))) = C.v (vB true), C.v (vB r1.1.f4) = C.v (vB false), C.v (vB (!r1.1.f4)) = C.v (vB false), (false : Bool) = false])
                  (by kernel_rfl) ⟨vbB h27, vbB h28, F205.fn_c fuel x0.f5 _ h30, vbB h31, vbB h38, vbB h39, vbB h40, vbB h45, rfl, trivial⟩ rfl (fun _ _ h => h)
          · 
            obtain rfl := Option.some.inj h
            exact runRet_S (r := ⟨Try.f217.results.toList, _, _, _, [], 9⟩) (n := 100000) (c := (.out .normal)) (K := K0) (s := (J0_0 x0.f0 x0.f1 x0.f2 x0.f3 x0.f4 x0.f5 r1.1.f0 r1.1.f1 r1.1.f2 r1.1.f3 r1.1.f4 r1.2 many1 r25).sl)
              (hs := [.g (.env 43 (C.v (vB false))), hA, .skip, .g (.env 46 (C.v (vB true))), hA, .call ⟨[.ro], 9, [], true, [], (vB r29), [], 2⟩, .skip, .skip, .g (.env 51 (C.v (vB false))), hA, hA, .skip, .g (.env 55 (C.v (vB true))), hA, hA, .skip, .skip, .skip, .g (.env 61 (C.v (vB false)))])
              (ps := [C.v (vB r25) = C.v (vB false), C.v (vB r1.1.f3) = C.v (vB true), CallOK Try.prog 205 [.ro (vI .i64 x0.f5)] [] (vB r29), C.v (vB r29) = C.v (vB false), C.v (vB (!r1.1.f3)) = C.v (vB true), C.v (vB (decide (x0.f5 = 0))) = C.v (vB false), (false : Bool) = false])
              (by kernel_rfl) ⟨vbB h27, vbB h28, F205.fn_c fuel x0.f5 _ h30, vbB h31, vbB h38, vbB h39, rfl, trivial⟩ rfl (fun _ _ h => h)
        · 
          obtain rfl := Option.some.inj h
          exact runRet_S (r := ⟨Try.f217.results.toList, _, _, _, [], 9⟩) (n := 100000) (c := (.out .normal)) (K := K0) (s := (J0_0 x0.f0 x0.f1 x0.f2 x0.f3 x0.f4 x0.f5 r1.1.f0 r1.1.f1 r1.1.f2 r1.1.f3 r1.1.f4 r1.2 many1 r25).sl)
            (hs := [.g (.env 43 (C.v (vB false))), hA, .skip, .g (.env 46 (C.v (vB true))), hA, .call ⟨[.ro], 9, [], true, [], (vB r29), [], 2⟩, .skip, .skip, .g (.env 51 (C.v (vB false))), hA, hA, .skip, .g (.env 55 (C.v (vB false)))])
            (ps := [C.v (vB r25) = C.v (vB false), C.v (vB r1.1.f3) = C.v (vB true), CallOK Try.prog 205 [.ro (vI .i64 x0.f5)] [] (vB r29), C.v (vB r29) = C.v (vB false), C.v (vB (!r1.1.f3)) = C.v (vB false), (false : Bool) = false])
            (by kernel_rfl) ⟨vbB h27, vbB h28, F205.fn_c fuel x0.f5 _ h30, vbB h31, vbB h38, rfl, trivial⟩ rfl (fun _ _ h => h)
    · 
      rcases cond_cases h with ⟨h46, h⟩ | ⟨h46, h⟩
      · 
        rcases cond_cases h with ⟨h47, h⟩ | ⟨h47, h⟩
        · 
          rcases cond_cases h with ⟨h48, h⟩ | ⟨h48, h⟩
          · 
            obtain ⟨r49, h50, h⟩ := bind_cases h
            rcases cond_cases h with ⟨h51, h⟩ | ⟨h51, h⟩
            · 
              obtain rfl := Option.some.inj h
              exact runRet_S (r := ⟨Try.f217.results.toList, _, _, _, [], 9⟩) (n := 100000) (c := (.out .normal)) (K := K0) (s := (J0_0 x0.f0 x0.f1 x0.f2 x0.f3 x0.f4 x0.f5 r1.1.f0 r1.1.f1 r1.1.f2 r1.1.f3 r1.1.f4 r1.2 many1 r25).sl)
                (hs := [.g (.env 43 (C.v (vB false))), hA, .skip, .g (.env 46 (C.v (vB false))), hA, hA, .skip, .g (.env 55 (C.v (vB true))), hA, hA, .skip, .skip, .skip, .g (.env 61 (C.v (vB true))), hA, .skip, .g (.env 64 (C.v (vB true))), hA, .call ⟨[.ro], 9, [], true, [], (vB r49), [], 2⟩, .skip, .skip, .g (.env 69 (C.v (vB true)))])
                (ps := [C.v (vB r25) = C.v (vB false), C.v (vB r1.1.f3) = C.v (vB false), C.v (vB (!r1.1.f3)) = C.v (vB true), C.v (vB (decide (x0.f5 = 0))) = C.v (vB true), C.v (vB r1.1.f4) = C.v (vB true), CallOK Try.prog 243 [.ro (vI .i64 x0.f1)] [] (vB r49), C.v (vB r49) = C.v (vB true), (true : Bool) = true])
                (by kernel_rfl) ⟨vbB h27, vbB h28, vbB h46, vbB h47, vbB h48, F243.fn_c fuel x0.f1 _ h50, vbB h51, rfl, trivial⟩ rfl (fun _ _ h => h)
            · 
              rcases cond_cases h with ⟨h52, h⟩ | ⟨h52, h⟩
              · 
                obtain rfl := Option.some.inj h
                exact runRet_S (r := ⟨Try.f217.results.toList, _, _, _, [], 9⟩) (n := 100000) (c := (.out .normal)) (K := K0) (s := (J0_0 x0.f0 x0.f1 x0.f2 x0.f3 x0.f4 x0.f5 r1.1.f0 r1.1.f1 r1.1.f2 r1.1.f3 r1.1.f4 r1.2 many1 r25).sl)
                  (hs := [.g (.env 43 (C.v (vB false))), hA, .skip, .g (.env 46 (C.v (vB false))), hA, hA, .skip, .g (.env 55 (C.v (vB true))), hA, hA, .skip, .skip, .skip, .g (.env 61 (C.v (vB true))), hA, .skip, .g (.env 64 (C.v (vB true))), hA, .call ⟨[.ro], 9, [], true, [], (vB r49), [], 2⟩, .skip, .skip, .g (.env 69 (C.v (vB false))), hA, hA, .skip, .g (.env 73 (C.v (vB true))), hA, hA])
                  (ps := [C.v (vB r25) = C.v (vB false), C.v (vB r1.1.f3) = C.v (vB false), C.v (vB (!r1.1.f3)) = C.v (vB true), C.v (vB (decide (x0.f5 = 0))) = C.v (vB true), C.v (vB r1.1.f4) = C.v (vB true), CallOK Try.prog 243 [.ro (vI .i64 x0.f1)] [] (vB r49), C.v (vB r49) = C.v (vB false), C.v (vB (!r1.1.f4)) = C.v (vB true), (decide (x0.f1 = 0) : Bool) = (decide (x0.f1 = 0))])
                  (by kernel_rfl) ⟨vbB h27, vbB h28, vbB h46, vbB h47, vbB h48, F243.fn_c fuel x0.f1 _ h50, vbB h51, vbB h52, rfl, trivial⟩ rfl (fun _ _ h => h)
              · 
                obtain rfl := Option.some.inj h
                exact runRet_S (r := ⟨Try.f217.results.toList, _, _, _, [], 9⟩) (n := 100000) (c := (.out .normal)) (K := K0) (s := (J0_0 x0.f0 x0.f1 x0.f2 x0.f3 x0.f4 x0.f5 r1.1.f0 r1.1.f1 r1.1.f2 r1.1.f3 r1.1.f4 r1.2 many1 r25).sl)
                  (hs := [.g (.env 43 (C.v (vB false))), hA, .skip, .g (.env 46 (C.v (vB false))), hA, hA, .skip, .g (.env 55 (C.v (vB true))), hA, hA, .skip, .skip, .skip, .g (.env 61 (C.v (vB true))), hA, .skip, .g (.env 64 (C.v (vB true))), hA, .call ⟨[.ro], 9, [], true, [], (vB r49), [], 2⟩, .skip, .skip, .g (.env 69 (C.v (vB false))), hA, hA, .skip, .g (.env 73 (C.v (vB false)))])
                  (ps := [C.v (vB r25) = C.v (vB false), C.v (vB r1.1.f3) = C.v (vB false), C.v (vB (!r1.1.f3)) = C.v (vB true), C.v (vB (decide (x0.f5 = 0))) = C.v (vB true), C.v (vB r1.1.f4) = C.v (vB true), CallOK Try.prog 243 [.ro (vI .i64 x0.f1)] [] (vB r49), C.v (vB r49) = C.v (vB false), C.v (vB (!r1.1.f4)) = C.v (vB false), (false : Bool) = false])
                  (by kernel_rfl) ⟨vbB h27, vbB h28, vbB h46, vbB h47, vbB h48, F243.fn_c fuel x0.f1 _ h50, vbB h51, vbB h52, rfl, trivial⟩ rfl (fun _ _ h => h)
          · 
            rcases cond_cases h with ⟨h53, h⟩ | ⟨h53, h⟩
            · 
              obtain rfl := Option.some.inj h
              exact runRet_S (r := ⟨Try.f217.results.toList, _, _, _, [], 9⟩) (n := 100000) (c := (.out .normal)) (K := K0) (s := (J0_0 x0.f0 x0.f1 x0.f2 x0.f3 x0.f4 x0.f5 r1.1.f0 r1.1.f1 r1.1.f2 r1.1.f3 r1.1.f4 r1.2 many1 r25).sl)
                (hs := [.g (.env 43 (C.v (vB false))), hA, .skip, .g (.env 46 (C.v (vB false))), hA, hA, .skip, .g (.env 55 (C.v (vB true))), hA, hA, .skip, .skip, .skip, .g (.env 61 (C.v (vB true))), hA, .skip, .g (.env 64 (C.v (vB false))), hA, hA, .skip, .g (.env 73 (C.v (vB true))), hA, hA])
                (ps := [C.v (vB r25) = C.v (vB false), C.v (vB r1.1.f3) = C.v (vB false), C.v (vB (!r1.1.f3)) = C.v (vB true), C.v (vB (decide (x0.f5 = 0))) = C.v (vB true), C.v (vB r1.1.f4) = C.v (vB false), C.v (vB (!r1.1.f4)) = C.v (vB true), (decide (x0.f1 = 0) : Bool) = (decide (x0.f1 = 0))])
                (by kernel_rfl) ⟨vbB h27, vbB h28, vbB h46, vbB h47, vbB h48, vbB h53, rfl, trivial⟩ rfl (fun _ _ h => h)
            · 
              obtain rfl := Option.some.inj h
              exact runRet_S (r := ⟨Try.f217.results.toList, _, _, _, [], 9⟩) (n := 100000) (c := (.out .normal)) (K := K0) (s := (J0_0 x0.f0 x0.f1 x0.f2 x0.f3 x0.f4 x0.f5 r1.1.f0 r1.1.f1 r1.1.f2 r1.1.f3 r1.1.f4 r1.2 many1 r25).sl)
                (hs := [.g (.env 43 (C.v (vB false))), hA, .skip, .g (.env 46 (C.v (vB false))), hA, hA, .skip, .g (.env 55 (C.v (vB true))), hA, hA, .skip, .skip, .skip, .g (.env 61 (C.v (vB true))), hA, .skip, .g (.env 64 (C.v (vB false))), hA, hA, .skip, .g (.env 73 (C.v (vB false)))])
                (ps := [C.v (vB r25) = C.v (vB false), C.v (vB r1.1.f3) = C.v (vB false), C.v (vB (!r1.1.f3)) = C.v (vB true), C.v (vB (decide (x0.f5 = 0))) = C.v (vB true), C.v (vB r1.1.f4) = C.v (vB false), C.v (vB (!r1.1.f4)) = C.v (vB false), (false : Bool) = false])
                (by kernel_rfl) ⟨vbB h27, vbB h28, vbB h46, vbB h47, vbB h48, vbB h53, rfl, trivial⟩ rfl (fun _ _ h => h)
        · 
          obtain rfl := Option.some.inj h
          exact runRet_S (r := ⟨Try.f217.results.toList, _, _, _, [], 9⟩) (n := 100000) (c := (.out .normal)) (K := K0) (s := (J0_0 x0.f0 x0.f1 x0.f2 x0.f3 x0.f4 x0.f5 r1.1.f0 r1.1.f1 r1.1.f2 r1.1.f3 r1.1.f4 r1.2 many1 r25).sl)
            (hs := [.g (.env 43 (C.v (vB false))), hA, .skip, .g (.env 46 (C.v (vB false))), hA, hA, .skip, .g (.env 55 (C.v (vB true))), hA, hA, .skip, .skip, .skip, .g (.env 61 (C.v (vB false)))])
            (ps := [C.v (vB r25) = C.v (vB false), C.v (vB r1.1.f3) = C.v (vB false), C.v (vB (!r1.1.f3)) = C.v (vB true), C.v (vB (decide (x0.f5 = 0))) = C.v (vB false), (false : Bool) = false])
            (by kernel_rfl) ⟨vbB h27, vbB h28, vbB h46, vbB h47, rfl, trivial⟩ rfl (fun _ _ h => h)
      · 
        obtain rfl := Option.some.inj h
        exact runRet_S (r := ⟨Try.f217.results.toList, _, _, _, [], 9⟩) (n := 100000) (c := (.out .normal)) (K := K0) (s := (J0_0 x0.f0 x0.f1 x0.f2 x0.f3 x0.f4 x0.f5 r1.1.f0 r1.1.f1 r1.1.f2 r1.1.f3 r1.1.f4 r1.2 many1 r25).sl)
          (hs := [.g (.env 43 (C.v (vB false))), hA, .skip, .g (.env 46 (C.v (vB false))), hA, hA, .skip, .g (.env 55 (C.v (vB false)))])
          (ps := [C.v (vB r25) = C.v (vB false), C.v (vB r1.1.f3) = C.v (vB false), C.v (vB (!r1.1.f3)) = C.v (vB false), (false : Bool) = false])
          (by kernel_rfl) ⟨vbB h27, vbB h28, vbB h46, rfl, trivial⟩ rfl (fun _ _ h => h)
end F217
namespace F216
/-! impl.codeOK$1 -/
def fn (fuel : Nat) (x0 : T131) (cap0 : Int) : Option (Bool × Int) :=
  (F217.fn fuel x0 cap0).bind fun r1 =>
  some (!r1, cap0)
theorem ent : enterable Try.prog 216 = true := by kernel_rfl
theorem fn_c (fuel : Nat) (x0 : T131) (cap0 : Int) (r : Bool × Int) (h : fn fuel x0 cap0 = some r) : CallOK Try.prog 216 [.ro (.ag (eT131.f x0)), .io (.bx [(vI .i64 cap0)])] [(.bx [(vI .i64 r.2)])] (vB r.1) := by
  refine contract_run Try.func216 (b := bod Try.f216) rfl ent ?_
  unfold fn at h
  obtain ⟨r1, h2, h⟩ := bind_cases h
  obtain rfl := Option.some.inj h
  exact runRet_S (r := ⟨Try.f216.results.toList, _, _, _, [], 9⟩) (n := 100000) (c := (.code (bod Try.f216))) (K := [])
    (hs := [.h (.new 1), hA, hA, .call ⟨[.ro, .ro], 9, [], true, [], (vB r1), [], 2⟩, hA])
    (ps := [CallOK Try.prog 217 [.ro (.ag [(vI .i64 x0.f0), (vI .i64 x0.f1), (vI .i64 x0.f2), (vI .i64 x0.f3), (vI .i64 x0.f4), (vI .i64 x0.f5)]), .ro (vI .i64 cap0)] [] (vB r1), (.bx [(vI .i64 cap0)] : V) = .bx [(vI .i64 cap0)], (!r1 : Bool) = (!r1)])
    (by kernel_rfl) ⟨F217.fn_c fuel x0 cap0 _ h2, rfl, rfl, trivial⟩ rfl (fun _ _ h => h)
end F216
namespace F257_216
/-! slices.IndexFunc[[]impl.Flat,impl.Flat] -/
noncomputable def K0 := (subC [1, 0, 1, 0] (bod Try.f257) []).2
noncomputable def L0 := (subC [1, 0, 1, 0, 0] (bod Try.f257) []).1
def I0 (v1 : Int) (s2 : List T131) (v3 : Int) (v4 : Int) : TL := ⟨19, [C.dead, C.fn 216 [C.pr 0 0]], [(0, C.v (vS eT131 s2)), (1, C.fn 216 [C.pr 0 0]), (7, C.v (vI .i64 v3)), (8, C.v (vI .i64 v4))], [], [(0, [C.own (vI .i64 v1)])]⟩
def J0_0 (s2 : List T131) (v3 : Int) (o : Int × Int) : TL := ⟨19, [C.dead, C.fn 216 [C.pr 0 0]], [(4, C.v (vI .i64 o.2))], [], [(0, [C.own (vI .i64 o.1)])]⟩
def J0_1 (s2 : List T131) (v3 : Int) (o : Int) : TL := ⟨19, [C.dead, C.fn 216 [C.pr 0 0]], [], [], [(0, [C.own (vI .i64 o)])]⟩
def Q0 (s2 : List T131) (v3 : Int) (r : (Int × Int) ⊕ Int) (e : Exit) (st : St) : Prop := (Sum.elim (fun o => e = .ret ∧ Le st (J0_0 s2 v3 o).sl.st) (fun o => e = (.exit 0) ∧ Le st (J0_1 s2 v3 o).sl.st)) r
def p0 (fuel : Nat) (s2 : List T131) (v3 : Int) : Nat → Int → Int → Option ((Int × Int) ⊕ Int)
  | 0, _, _ => none
  | n + 1, v1, v4 =>
    cond (decide (v4 < v3))
    ((idx v4 s2.length).bind fun j6 =>
      (F216.fn fuel (s2.getD j6 (default : T131)) v1).bind fun r8 =>
      cond (r8.1)
      (some (.inl (r8.2, v4)))
      (p0 fuel s2 v3 n r8.2 (w64 (v4 + 1))))
    (some (.inr v1))
theorem p0_c (fuel : Nat) (s2 : List T131) (v3 : Int) (n : Nat) (v1 : Int) (v4 : Int) (r : (Int × Int) ⊕ Int) (h : p0 fuel s2 v3 n v1 v4 = some r) : TW Try.prog (.loop L0) (I0 v1 s2 v3 v4).sl.st (Q0 s2 v3 r) := by
  refine loop_run (σ := Int × Int) (fun x => I0 x.1 s2 v3 x.2) (fun n x => p0 fuel s2 v3 n x.1 x.2) (Q0 s2 v3) ?_ (fun _ => rfl) (x := (v1, v4)) h
  clear h
  rintro n ⟨v1, v4⟩ r h
  replace h : p0 fuel s2 v3 (n + 1) v1 v4 = some r := h
  rw [p0] at h
  rcases cond_cases h with ⟨h5, h⟩ | ⟨h5, h⟩
  · 
    obtain ⟨j6, h7, h⟩ := bind_cases h
    obtain ⟨r8, h9, h⟩ := bind_cases h
    rcases cond_cases h with ⟨h10, h⟩ | ⟨h10, h⟩
    · 
      obtain rfl := Option.some.inj h
      exact runAt_S (Q := Round _ (n + 1) _) (n := 100000) (c := (.code L0)) (K := []) (s := (I0 v1 s2 v3 v4).sl) (e := .ret) (t := J0_0 s2 v3 (r8.2, v4)) (l := [(0, 0)])
        (hs := [hA, .g (.env 9 (C.v (vB true))), .h (.idv j6 (eT131.f (s2.getD j6 (default : T131)) ++ (cs eT131 (s2.drop (j6 + 1))))), hA, .call ⟨[.ro, (.io none)], 9, [], true, [(.bx [(vI .i64 r8.2)])], (vB r8.1), [[C.own (vI .i64 r8.2)]], 1⟩, .g (.env 16 (C.v (vB true)))])
        (ps := [C.v (vB (decide (v4 < v3))) = C.v (vB true), v4 = (j6 : Int), j6 < s2.length, (cs eT131 s2).drop (j6 * 6) = (eT131.f (s2.getD j6 (default : T131)) ++ (cs eT131 (s2.drop (j6 + 1)))), cs eT131 s2 ≠ [], CallOK Try.prog 216 [.ro (.ag [(vI .i64 ((s2.getD j6 (default : T131)).f0)), (vI .i64 ((s2.getD j6 (default : T131)).f1)), (vI .i64 ((s2.getD j6 (default : T131)).f2)), (vI .i64 ((s2.getD j6 (default : T131)).f3)), (vI .i64 ((s2.getD j6 (default : T131)).f4)), (vI .i64 ((s2.getD j6 (default : T131)).f5))]), .io (.bx [(vI .i64 v1)])] [(.bx [(vI .i64 r8.2)])] (vB r8.1), ([(vI .i64 r8.2)] : List V).length = 1, ([(vI .i64 r8.2)] : List V).length = 1 ∨ ([C.own (vI .i64 v1)] : List C).length ≤ 0 + 1, ([C.own (vI .i64 v1)] : List C).take 0 ++ ([(vI .i64 r8.2)] : List V).map C.own ++ ([C.own (vI .i64 v1)] : List C).drop (0 + 1) = [C.own (vI .i64 r8.2)], C.v (vB r8.1) = C.v (vB true), 0 = 0, (v4 : Int) = v4, (r8.2 : Int) = r8.2])
        (by kernel_rfl) ⟨vbB h5, (idx_S h7).1, (idx_S h7).2, cs_from (e := eT131) (d := (default : T131)) (idx_S h7).2, cs_ne (e := eT131) (idx_S h7).2 (by decide), F216.fn_c fuel (s2.getD j6 (default : T131)) v1 _ h9, rfl, .inl rfl, rfl, vbB h10, rfl, rfl, rfl, trivial⟩ (fun st hl => ⟨rfl, hl⟩)
    · 
      exact runAt_S (Q := Round _ (n + 1) _) (n := 100000) (c := (.code L0)) (K := []) (s := (I0 v1 s2 v3 v4).sl) (e := .normal) (t := I0 r8.2 s2 v3 (w64 (v4 + 1))) (l := [(0, 0)])
        (hs := [hA, .g (.env 9 (C.v (vB true))), .h (.idv j6 (eT131.f (s2.getD j6 (default : T131)) ++ (cs eT131 (s2.drop (j6 + 1))))), hA, .call ⟨[.ro, (.io none)], 9, [], true, [(.bx [(vI .i64 r8.2)])], (vB r8.1), [[C.own (vI .i64 r8.2)]], 1⟩, .g (.env 16 (C.v (vB false))), hA])
        (ps := [C.v (vB (decide (v4 < v3))) = C.v (vB true), v4 = (j6 : Int), j6 < s2.length, (cs eT131 s2).drop (j6 * 6) = (eT131.f (s2.getD j6 (default : T131)) ++ (cs eT131 (s2.drop (j6 + 1)))), cs eT131 s2 ≠ [], CallOK Try.prog 216 [.ro (.ag [(vI .i64 ((s2.getD j6 (default : T131)).f0)), (vI .i64 ((s2.getD j6 (default : T131)).f1)), (vI .i64 ((s2.getD j6 (default : T131)).f2)), (vI .i64 ((s2.getD j6 (default : T131)).f3)), (vI .i64 ((s2.getD j6 (default : T131)).f4)), (vI .i64 ((s2.getD j6 (default : T131)).f5))]), .io (.bx [(vI .i64 v1)])] [(.bx [(vI .i64 r8.2)])] (vB r8.1), ([(vI .i64 r8.2)] : List V).length = 1, ([(vI .i64 r8.2)] : List V).length = 1 ∨ ([C.own (vI .i64 v1)] : List C).length ≤ 0 + 1, ([C.own (vI .i64 v1)] : List C).take 0 ++ ([(vI .i64 r8.2)] : List V).map C.own ++ ([C.own (vI .i64 v1)] : List C).drop (0 + 1) = [C.own (vI .i64 r8.2)], C.v (vB r8.1) = C.v (vB false), 0 = 0, ((vS eT131 s2) : V) = (vS eT131 s2), 0 = 0, (v3 : Int) = v3, (w64 (v4 + 1) : Int) = (w64 (v4 + 1)), (r8.2 : Int) = r8.2])
        (by kernel_rfl) ⟨vbB h5, (idx_S h7).1, (idx_S h7).2, cs_from (e := eT131) (d := (default : T131)) (idx_S h7).2, cs_ne (e := eT131) (idx_S h7).2 (by decide), F216.fn_c fuel (s2.getD j6 (default : T131)) v1 _ h9, rfl, .inl rfl, rfl, vbB h10, rfl, rfl, rfl, rfl, rfl, rfl, trivial⟩ (fun st hl => ⟨n, _, Nat.lt_succ_self n, hl, (r8.2, w64 (v4 + 1)), rfl, rfl, h⟩)
  · 
    obtain rfl := Option.some.inj h
    exact runAt_S (Q := Round _ (n + 1) _) (n := 100000) (c := (.code L0)) (K := []) (s := (I0 v1 s2 v3 v4).sl) (e := (.exit 0)) (t := J0_1 s2 v3 v1) (l := [(0, 0)])
      (hs := [hA, .g (.env 9 (C.v (vB false)))])
      (ps := [C.v (vB (decide (v4 < v3))) = C.v (vB false), 0 = 0, (v1 : Int) = v1])
      (by kernel_rfl) ⟨vbB h5, rfl, rfl, trivial⟩ (fun st hl => ⟨rfl, hl⟩)
def fn (fuel : Nat) (s0 : List T131) (f1c0 : Int) : Option (Int × Int) :=
  (p0 fuel s0 (s0.length : Int) fuel f1c0 (0 : Int)).bind fun r11 =>
  (Sum.elim (fun y13 => some (y13.2, y13.1))
  (fun y14 => some ((-1), y14))) r11
theorem ent : enterable Try.prog 257 = true := by kernel_rfl
theorem fn_c (fuel : Nat) (s0 : List T131) (f1c0 : Int) (r : Int × Int) (h : fn fuel s0 f1c0 = some r) : CallOK Try.prog 257 [.ro (vS eT131 s0), .io (.fn 216 [.bx [(vI .i64 f1c0)]])] [(.fn 216 [.bx [(vI .i64 r.2)]])] (vI .i64 r.1) := by
  refine contract_run Try.func257 (b := bod Try.f257) rfl ent ?_
  unfold fn at h
  obtain ⟨r11, h12, h⟩ := bind_cases h
  refine runTo_S (n := 100000) (c := (.code (bod Try.f257))) (K := []) (b := (.code (.loop L0))) (K1 := K0) (t := I0 f1c0 s0 (s0.length : Int) (0 : Int)) (l := [(0, 0)])
    (hs := [hA])
    (ps := [0 = 0, ((vS eT131 s0) : V) = (vS eT131 s0), 0 = 0, ((s0.length : Int) : Int) = (s0.length : Int), (0 : Int) = (0 : Int), (f1c0 : Int) = f1c0])
    (by kernel_rfl) ⟨rfl, rfl, rfl, rfl, rfl, rfl, trivial⟩ (cut_code ?_)
  refine TW.mono_le (p0_c fuel s0 (s0.length : Int) fuel f1c0 (0 : Int) _ h12) ?_
  rcases r11 with y13 | y14
  · 
    replace h := sum_l h
    rintro e st hq
    obtain ⟨rfl, hl⟩ := hq
    refine ⟨_, hl, ?_⟩
    obtain rfl := Option.some.inj h
    exact runRet_S (r := ⟨Try.f257.results.toList, _, _, _, [], 9⟩) (n := 100000) (c := (.out .ret)) (K := K0) (s := (J0_0 s0 (s0.length : Int) y13).sl)
      (hs := [])
      (ps := [(.fn 216 [.bx [(vI .i64 y13.1)]] : V) = .fn 216 [.bx [(vI .i64 y13.1)]], (y13.2 : Int) = y13.2])
      (by kernel_rfl) ⟨rfl, rfl, trivial⟩ rfl (fun _ _ h => h)
  · 
    replace h := sum_r h
    rintro e st hq
    obtain ⟨rfl, hl⟩ := hq
    refine ⟨_, hl, ?_⟩
    obtain rfl := Option.some.inj h
    exact runRet_S (r := ⟨Try.f257.results.toList, _, _, _, [], 9⟩) (n := 100000) (c := (.out (.exit 0))) (K := K0) (s := (J0_1 s0 (s0.length : Int) y14).sl)
      (hs := [])
      (ps := [(.fn 216 [.bx [(vI .i64 y14)]] : V) = .fn 216 [.bx [(vI .i64 y14)]], ((-1) : Int) = (-1)])
      (by kernel_rfl) ⟨rfl, rfl, trivial⟩ rfl (fun _ _ h => h)
end F257_216
namespace F215_216
/-! slices.ContainsFunc[[]impl.Flat,impl.Flat] -/
def fn (fuel : Nat) (s0 : List T131) (f1c0 : Int) : Option (Bool × Int) :=
  (F257_216.fn fuel s0 f1c0).bind fun r1 =>
  some (decide (r1.1 ≥ 0), r1.2)
theorem ent : enterable Try.prog 215 = true := by kernel_rfl
theorem fn_c (fuel : Nat) (s0 : List T131) (f1c0 : Int) (r : Bool × Int) (h : fn fuel s0 f1c0 = some r) : CallOK Try.prog 215 [.ro (vS eT131 s0), .io (.fn 216 [.bx [(vI .i64 f1c0)]])] [(.fn 216 [.bx [(vI .i64 r.2)]])] (vB r.1) := by
  refine contract_run Try.func215 (b := bod Try.f215) rfl ent ?_
  unfold fn at h
  obtain ⟨r1, h2, h⟩ := bind_cases h
  obtain rfl := Option.some.inj h
  exact runRet_S (r := ⟨Try.f215.results.toList, _, _, _, [], 9⟩) (n := 100000) (c := (.code (bod Try.f215))) (K := [])
    (hs := [.call ⟨[.ro, (.io none)], 9, [], true, [(.fn 216 [(.bx [(vI .i64 r1.2)])])], (vI .i64 r1.1), [[C.own (vI .i64 r1.2)]], 1⟩, hA])
    (ps := [CallOK Try.prog 257 [.ro (vS eT131 s0), .io (.fn 216 [(.bx [(vI .i64 f1c0)])])] [(.fn 216 [(.bx [(vI .i64 r1.2)])])] (vI .i64 r1.1), ([(vI .i64 r1.2)] : List V).length = 1, ([(vI .i64 r1.2)] : List V).length = 1 ∨ ([C.own (vI .i64 f1c0)] : List C).length ≤ 0 + 1, ([C.own (vI .i64 f1c0)] : List C).take 0 ++ ([(vI .i64 r1.2)] : List V).map C.own ++ ([C.own (vI .i64 f1c0)] : List C).drop (0 + 1) = [C.own (vI .i64 r1.2)], (.fn 216 [.bx [(vI .i64 r1.2)]] : V) = .fn 216 [.bx [(vI .i64 r1.2)]], (decide (r1.1 ≥ 0) : Bool) = (decide (r1.1 ≥ 0))])
    (by kernel_rfl) ⟨F257_216.fn_c fuel s0 f1c0 _ h2, rfl, .inl rfl, rfl, rfl, rfl, trivial⟩ rfl (fun _ _ h => h)
end F215_216
namespace F156
/-! impl.codeOK -/
def fn (fuel : Nat) (l0 : List T131) (many1 : Int) : Option Bool :=
  cond (decide ((l0.length : Int) ≤ 60))
  ((F215_216.fn fuel l0 many1).bind fun r2 =>
    some (!r2.1))
  (some false)
theorem ent : enterable Try.prog 156 = true := by kernel_rfl
theorem fn_c (fuel : Nat) (l0 : List T131) (many1 : Int) (r : Bool) (h : fn fuel l0 many1 = some r) : CallOK Try.prog 156 [.ro (vS eT131 l0), .ro (vI .i64 many1)] [] (vB r) := by
  refine contract_run Try.func156 (b := bod Try.f156) rfl ent ?_
  unfold fn at h
  rcases cond_cases h with ⟨h1, h⟩ | ⟨h1, h⟩
  · 
    obtain ⟨r2, h3, h⟩ := bind_cases h
    obtain rfl := Option.some.inj h
    exact runRet_S (r := ⟨Try.f156.results.toList, _, _, _, [], 9⟩) (n := 100000) (c := (.code (bod Try.f156))) (K := [])
      (hs := [.h (.new 0), hA, hA, .skip, .g (.env 8 (C.v (vB true))), .call ⟨[.ro, (.io none)], 9, [], true, [(.fn 216 [(.bx [(vI .i64 r2.2)])])], (vB r2.1), [[C.own (vI .i64 r2.2)]], 1⟩, hA])
      (ps := [C.v (vB (decide ((l0.length : Int) ≤ 60))) = C.v (vB true), CallOK Try.prog 215 [.ro (vS eT131 l0), .io (.fn 216 [(.bx [(vI .i64 many1)])])] [(.fn 216 [(.bx [(vI .i64 r2.2)])])] (vB r2.1), ([(vI .i64 r2.2)] : List V).length = 1, ([(vI .i64 r2.2)] : List V).length = 1 ∨ ([C.own (vI .i64 many1)] : List C).length ≤ 0 + 1, ([C.own (vI .i64 many1)] : List C).take 0 ++ ([(vI .i64 r2.2)] : List V).map C.own ++ ([C.own (vI .i64 many1)] : List C).drop (0 + 1) = [C.own (vI .i64 r2.2)], (!r2.1 : Bool) = (!r2.1)])
      (by kernel_rfl) ⟨vbB h1, F215_216.fn_c fuel l0 many1 _ h3, rfl, .inl rfl, rfl, rfl, trivial⟩ rfl (fun _ _ h => h)
  · 
    obtain rfl := Option.some.inj h
    exact runRet_S (r := ⟨Try.f156.results.toList, _, _, _, [], 9⟩) (n := 100000) (c := (.code (bod Try.f156))) (K := [])
      (hs := [.h (.new 0), hA, hA, .skip, .g (.env 8 (C.v (vB false)))])
      (ps := [C.v (vB (decide ((l0.length : Int) ≤ 60))) = C.v (vB false), (false : Bool) = false])
      (by kernel_rfl) ⟨vbB h1, rfl, trivial⟩ rfl (fun _ _ h => h)
end F156
namespace F218
/-! impl.tests -/
def fn (fuel : Nat) (kind0 : Int) : Option Bool :=
  cond (decide (kind0 = 2))
  (some true)
  (some (decide (kind0 = 5)))
theorem ent : enterable Try.prog 218 = true := by kernel_rfl
theorem fn_c (fuel : Nat) (kind0 : Int) (r : Bool) (h : fn fuel kind0 = some r) : CallOK Try.prog 218 [.ro (vI .i64 kind0)] [] (vB r) := by
  refine contract_run Try.func218 (b := bod Try.f218) rfl ent ?_
  unfold fn at h
  rcases cond_cases h with ⟨h1, h⟩ | ⟨h1, h⟩
  · 
    obtain rfl := Option.some.inj h
    exact runRet_S (r := ⟨Try.f218.results.toList, _, _, _, [], 9⟩) (n := 100000) (c := (.code (bod Try.f218))) (K := [])
      (hs := [hA, .skip, .g (.env 5 (C.v (vB true)))])
      (ps := [C.v (vB (decide (kind0 = 2))) = C.v (vB true), (true : Bool) = true])
      (by kernel_rfl) ⟨vbB h1, rfl, trivial⟩ rfl (fun _ _ h => h)
  · 
    obtain rfl := Option.some.inj h
    exact runRet_S (r := ⟨Try.f218.results.toList, _, _, _, [], 9⟩) (n := 100000) (c := (.code (bod Try.f218))) (K := [])
      (hs := [hA, .skip, .g (.env 5 (C.v (vB false))), hA])
      (ps := [C.v (vB (decide (kind0 = 2))) = C.v (vB false), (decide (kind0 = 5) : Bool) = (decide (kind0 = 5))])
      (by kernel_rfl) ⟨vbB h1, rfl, trivial⟩ rfl (fun _ _ h => h)
end F218
namespace F219
/-! impl.goOK$1 -/
def fn (fuel : Nat) (k0 : Int) (cap0 : Int) : Option (Bool × Int) :=
  (F97.fn fuel k0 0 (w64 (cap0 - 1))).bind fun r1 =>
  some (!r1, cap0)
theorem ent : enterable Try.prog 219 = true := by kernel_rfl
theorem fn_c (fuel : Nat) (k0 : Int) (cap0 : Int) (r : Bool × Int) (h : fn fuel k0 cap0 = some r) : CallOK Try.prog 219 [.ro (vI .i64 k0), .io (.bx [(vI .i64 cap0)])] [(.bx [(vI .i64 r.2)])] (vB r.1) := by
  refine contract_run Try.func219 (b := bod Try.f219) rfl ent ?_
  unfold fn at h
  obtain ⟨r1, h2, h⟩ := bind_cases h
  obtain rfl := Option.some.inj h
  exact runRet_S (r := ⟨Try.f219.results.toList, _, _, _, [], 9⟩) (n := 100000) (c := (.code (bod Try.f219))) (K := [])
    (hs := [hA, hA, .call ⟨[.ro, .ro, .ro], 9, [], true, [], (vB r1), [], 1⟩, hA])
    (ps := [CallOK Try.prog 97 [.ro (vI .i64 k0), .ro (vI .i64 0), .ro (vI .i64 (w64 (cap0 - 1)))] [] (vB r1), (.bx [(vI .i64 cap0)] : V) = .bx [(vI .i64 cap0)], (!r1 : Bool) = (!r1)])
    (by kernel_rfl) ⟨F97.fn_c fuel k0 0 (w64 (cap0 - 1)) _ h2, rfl, rfl, trivial⟩ rfl (fun _ _ h => h)
end F219
namespace F251_219
/-! slices.IndexFunc[[]int,int] -/
noncomputable def K0 := (subC [1, 0, 1, 0] (bod Try.f251) []).2
noncomputable def L0 := (subC [1, 0, 1, 0, 0] (bod Try.f251) []).1
def I0 (v1 : Int) (s2 : List Int) (v3 : Int) (v4 : Int) : TL := ⟨19, [C.dead, C.fn 219 [C.pr 0 0]], [(0, C.v (vS eJ s2)), (1, C.fn 219 [C.pr 0 0]), (7, C.v (vI .i64 v3)), (8, C.v (vI .i64 v4))], [], [(0, [C.own (vI .i64 v1)])]⟩
def J0_0 (s2 : List Int) (v3 : Int) (o : Int × Int) : TL := ⟨19, [C.dead, C.fn 219 [C.pr 0 0]], [(4, C.v (vI .i64 o.2))], [], [(0, [C.own (vI .i64 o.1)])]⟩
def J0_1 (s2 : List Int) (v3 : Int) (o : Int) : TL := ⟨19, [C.dead, C.fn 219 [C.pr 0 0]], [], [], [(0, [C.own (vI .i64 o)])]⟩
def Q0 (s2 : List Int) (v3 : Int) (r : (Int × Int) ⊕ Int) (e : Exit) (st : St) : Prop := (Sum.elim (fun o => e = .ret ∧ Le st (J0_0 s2 v3 o).sl.st) (fun o => e = (.exit 0) ∧ Le st (J0_1 s2 v3 o).sl.st)) r
def p0 (fuel : Nat) (s2 : List Int) (v3 : Int) : Nat → Int → Int → Option ((Int × Int) ⊕ Int)
  | 0, _, _ => none
  | n + 1, v1, v4 =>
    cond (decide (v4 < v3))
    ((idx v4 s2.length).bind fun j6 =>
      (F219.fn fuel (s2.getD j6 (0 : Int)) v1).bind fun r8 =>
      cond (r8.1)
      (some (.inl (r8.2, v4)))
      (p0 fuel s2 v3 n r8.2 (w64 (v4 + 1))))
    (some (.inr v1))
theorem p0_c (fuel : Nat) (s2 : List Int) (v3 : Int) (n : Nat) (v1 : Int) (v4 : Int) (r : (Int × Int) ⊕ Int) (h : p0 fuel s2 v3 n v1 v4 = some r) : TW Try.prog (.loop L0) (I0 v1 s2 v3 v4).sl.st (Q0 s2 v3 r) := by
  refine loop_run (σ := Int × Int) (fun x => I0 x.1 s2 v3 x.2) (fun n x => p0 fuel s2 v3 n x.1 x.2) (Q0 s2 v3) ?_ (fun _ => rfl) (x := (v1, v4)) h
  clear h
  rintro n ⟨v1, v4⟩ r h
  replace h : p0 fuel s2 v3 (n + 1) v1 v4 = some r := h
  rw [p0] at h
  rcases cond_cases h with ⟨h5, h⟩ | ⟨h5, h⟩
  · 
    obtain ⟨j6, h7, h⟩ := bind_cases h
    obtain ⟨r8, h9, h⟩ := bind_cases h
    rcases cond_cases h with ⟨h10, h⟩ | ⟨h10, h⟩
    · 
      obtain rfl := Option.some.inj h
      exact runAt_S (Q := Round _ (n + 1) _) (n := 100000) (c := (.code L0)) (K := []) (s := (I0 v1 s2 v3 v4).sl) (e := .ret) (t := J0_0 s2 v3 (r8.2, v4)) (l := [(0, 0)])
        (hs := [hA, .g (.env 9 (C.v (vB true))), .h (.idv j6 (eJ.f (s2.getD j6 (0 : Int)) ++ (cs eJ (s2.drop (j6 + 1))))), hA, .call ⟨[.ro, (.io none)], 9, [], true, [(.bx [(vI .i64 r8.2)])], (vB r8.1), [[C.own (vI .i64 r8.2)]], 1⟩, .g (.env 16 (C.v (vB true)))])
        (ps := [C.v (vB (decide (v4 < v3))) = C.v (vB true), v4 = (j6 : Int), j6 < s2.length, (cs eJ s2).drop (j6 * 1) = (eJ.f (s2.getD j6 (0 : Int)) ++ (cs eJ (s2.drop (j6 + 1)))), cs eJ s2 ≠ [], CallOK Try.prog 219 [.ro (vI .i64 (s2.getD j6 (0 : Int))), .io (.bx [(vI .i64 v1)])] [(.bx [(vI .i64 r8.2)])] (vB r8.1), ([(vI .i64 r8.2)] : List V).length = 1, ([(vI .i64 r8.2)] : List V).length = 1 ∨ ([C.own (vI .i64 v1)] : List C).length ≤ 0 + 1, ([C.own (vI .i64 v1)] : List C).take 0 ++ ([(vI .i64 r8.2)] : List V).map C.own ++ ([C.own (vI .i64 v1)] : List C).drop (0 + 1) = [C.own (vI .i64 r8.2)], C.v (vB r8.1) = C.v (vB true), 0 = 0, (v4 : Int) = v4, (r8.2 : Int) = r8.2])
        (by kernel_rfl) ⟨vbB h5, (idx_S h7).1, (idx_S h7).2, cs_from (e := eJ) (d := (0 : Int)) (idx_S h7).2, cs_ne (e := eJ) (idx_S h7).2 (by decide), F219.fn_c fuel (s2.getD j6 (0 : Int)) v1 _ h9, rfl, .inl rfl, rfl, vbB h10, rfl, rfl, rfl, trivial⟩ (fun st hl => ⟨rfl, hl⟩)
    · 
      exact runAt_S (Q := Round _ (n + 1) _) (n := 100000) (c := (.code L0)) (K := []) (s := (I0 v1 s2 v3 v4).sl) (e := .normal) (t := I0 r8.2 s2 v3 (w64 (v4 + 1))) (l := [(0, 0)])
        (hs := [hA, .g (.env 9 (C.v (vB true))), .h (.idv j6 (eJ.f (s2.getD j6 (0 : Int)) ++ (cs eJ (s2.drop (j6 + 1))))), hA, .call ⟨[.ro, (.io none)], 9, [], true, [(.bx [(vI .i64 r8.2)])], (vB r8.1), [[C.own (vI .i64 r8.2)]], 1⟩, .g (.env 16 (C.v (vB false))), hA])
        (ps := [C.v (vB (decide (v4 < v3))) = C.v (vB true), v4 = (j6 : Int), j6 < s2.length, (cs eJ s2).drop (j6 * 1) = (eJ.f (s2.getD j6 (0 : Int)) ++ (cs eJ (s2.drop (j6 + 1)))), cs eJ s2 ≠ [], CallOK Try.prog 219 [.ro (vI .i64 (s2.getD j6 (0 : Int))), .io (.bx [(vI .i64 v1)])] [(.bx [(vI .i64 r8.2)])] (vB r8.1), ([(vI .i64 r8.2)] : List V).length = 1, ([(vI .i64 r8.2)] : List V).length = 1 ∨ ([C.own (vI .i64 v1)] : List C).length ≤ 0 + 1, ([C.own (vI .i64 v1)] : List C).take 0 ++ ([(vI .i64 r8.2)] : List V).map C.own ++ ([C.own (vI .i64 v1)] : List C).drop (0 + 1) = [C.own (vI .i64 r8.2)], C.v (vB r8.1) = C.v (vB false), 0 = 0, ((vS eJ s2) : V) = (vS eJ s2), 0 = 0, (v3 : Int) = v3, (w64 (v4 + 1) : Int) = (w64 (v4 + 1)), (r8.2 : Int) = r8.2])
        (by kernel_rfl) ⟨vbB h5, (idx_S h7).1, (idx_S h7).2, cs_from (e := eJ) (d := (0 : Int)) (idx_S h7).2, cs_ne (e := eJ) (idx_S h7).2 (by decide), F219.fn_c fuel (s2.getD j6 (0 : Int)) v1 _ h9, rfl, .inl rfl, rfl, vbB h10, rfl, rfl, rfl, rfl, rfl, rfl, trivial⟩ (fun st hl => ⟨n, _, Nat.lt_succ_self n, hl, (r8.2, w64 (v4 + 1)), rfl, rfl, h⟩)
  · 
    obtain rfl := Option.some.inj h
    exact runAt_S (Q := Round _ (n + 1) _) (n := 100000) (c := (.code L0)) (K := []) (s := (I0 v1 s2 v3 v4).sl) (e := (.exit 0)) (t := J0_1 s2 v3 v1) (l := [(0, 0)])
      (hs := [hA, .g (.env 9 (C.v (vB false)))])
      (ps := [C.v (vB (decide (v4 < v3))) = C.v (vB false), 0 = 0, (v1 : Int) = v1])
      (by kernel_rfl) ⟨vbB h5, rfl, rfl, trivial⟩ (fun st hl => ⟨rfl, hl⟩)
def fn (fuel : Nat) (s0 : List Int) (f1c0 : Int) : Option (Int × Int) :=
  (p0 fuel s0 (s0.length : Int) fuel f1c0 (0 : Int)).bind fun r11 =>
  (Sum.elim (fun y13 => some (y13.2, y13.1))
  (fun y14 => some ((-1), y14))) r11
theorem ent : enterable Try.prog 251 = true := by kernel_rfl
theorem fn_c (fuel : Nat) (s0 : List Int) (f1c0 : Int) (r : Int × Int) (h : fn fuel s0 f1c0 = some r) : CallOK Try.prog 251 [.ro (vS eJ s0), .io (.fn 219 [.bx [(vI .i64 f1c0)]])] [(.fn 219 [.bx [(vI .i64 r.2)]])] (vI .i64 r.1) := by
  refine contract_run Try.func251 (b := bod Try.f251) rfl ent ?_
  unfold fn at h
  obtain ⟨r11, h12, h⟩ := bind_cases h
  refine runTo_S (n := 100000) (c := (.code (bod Try.f251))) (K := []) (b := (.code (.loop L0))) (K1 := K0) (t := I0 f1c0 s0 (s0.length : Int) (0 : Int)) (l := [(0, 0)])
    (hs := [hA])
    (ps := [0 = 0, ((vS eJ s0) : V) = (vS eJ s0), 0 = 0, ((s0.length : Int) : Int) = (s0.length : Int), (0 : Int) = (0 : Int), (f1c0 : Int) = f1c0])
    (by kernel_rfl) ⟨rfl, rfl, rfl, rfl, rfl, rfl, trivial⟩ (cut_code ?_)
  refine TW.mono_le (p0_c fuel s0 (s0.length : Int) fuel f1c0 (0 : Int) _ h12) ?_
  rcases r11 with y13 | y14
  · 
    replace h := sum_l h
    rintro e st hq
    obtain ⟨rfl, hl⟩ := hq
    refine ⟨_, hl, ?_⟩
    obtain rfl := Option.some.inj h
    exact runRet_S (r := ⟨Try.f251.results.toList, _, _, _, [], 9⟩) (n := 100000) (c := (.out .ret)) (K := K0) (s := (J0_0 s0 (s0.length : Int) y13).sl)
      (hs := [])
      (ps := [(.fn 219 [.bx [(vI .i64 y13.1)]] : V) = .fn 219 [.bx [(vI .i64 y13.1)]], (y13.2 : Int) = y13.2])
      (by kernel_rfl) ⟨rfl, rfl, trivial⟩ rfl (fun _ _ h => h)
  · 
    replace h := sum_r h
    rintro e st hq
    obtain ⟨rfl, hl⟩ := hq
    refine ⟨_, hl, ?_⟩
    obtain rfl := Option.some.inj h
    exact runRet_S (r := ⟨Try.f251.results.toList, _, _, _, [], 9⟩) (n := 100000) (c := (.out (.exit 0))) (K := K0) (s := (J0_1 s0 (s0.length : Int) y14).sl)
      (hs := [])
      (ps := [(.fn 219 [.bx [(vI .i64 y14)]] : V) = .fn 219 [.bx [(vI .i64 y14)]], ((-1) : Int) = (-1)])
      (by kernel_rfl) ⟨rfl, rfl, trivial⟩ rfl (fun _ _ h => h)
end F251_219
namespace F203_219
/-! slices.ContainsFunc[[]int,int] -/
def fn (fuel : Nat) (s0 : List Int) (f1c0 : Int) : Option (Bool × Int) :=
  (F251_219.fn fuel s0 f1c0).bind fun r1 =>
  some (decide (r1.1 ≥ 0), r1.2)
theorem ent : enterable Try.prog 203 = true := by kernel_rfl
theorem fn_c (fuel : Nat) (s0 : List Int) (f1c0 : Int) (r : Bool × Int) (h : fn fuel s0 f1c0 = some r) : CallOK Try.prog 203 [.ro (vS eJ s0), .io (.fn 219 [.bx [(vI .i64 f1c0)]])] [(.fn 219 [.bx [(vI .i64 r.2)]])] (vB r.1) := by
  refine contract_run Try.func203 (b := bod Try.f203) rfl ent ?_
  unfold fn at h
  obtain ⟨r1, h2, h⟩ := bind_cases h
  obtain rfl := Option.some.inj h
  exact runRet_S (r := ⟨Try.f203.results.toList, _, _, _, [], 9⟩) (n := 100000) (c := (.code (bod Try.f203))) (K := [])
    (hs := [.call ⟨[.ro, (.io none)], 9, [], true, [(.fn 219 [(.bx [(vI .i64 r1.2)])])], (vI .i64 r1.1), [[C.own (vI .i64 r1.2)]], 1⟩, hA])
    (ps := [CallOK Try.prog 251 [.ro (vS eJ s0), .io (.fn 219 [(.bx [(vI .i64 f1c0)])])] [(.fn 219 [(.bx [(vI .i64 r1.2)])])] (vI .i64 r1.1), ([(vI .i64 r1.2)] : List V).length = 1, ([(vI .i64 r1.2)] : List V).length = 1 ∨ ([C.own (vI .i64 f1c0)] : List C).length ≤ 0 + 1, ([C.own (vI .i64 f1c0)] : List C).take 0 ++ ([(vI .i64 r1.2)] : List V).map C.own ++ ([C.own (vI .i64 f1c0)] : List C).drop (0 + 1) = [C.own (vI .i64 r1.2)], (.fn 219 [.bx [(vI .i64 r1.2)]] : V) = .fn 219 [.bx [(vI .i64 r1.2)]], (decide (r1.1 ≥ 0) : Bool) = (decide (r1.1 ≥ 0))])
    (by kernel_rfl) ⟨F251_219.fn_c fuel s0 f1c0 _ h2, rfl, .inl rfl, rfl, rfl, rfl, trivial⟩ rfl (fun _ _ h => h)
end F203_219
namespace F157
/-! impl.goOK -/
noncomputable def K0 := (subC [1, 0, 0] (bod Try.f157) []).2
noncomputable def B0 := (subC [1, 0, 0] (bod Try.f157) []).1
def I0 (kind1 : Int) (test2 : Int) (next3 : List Int) (many4 : Int) (blocks5 : Int) : TL := ⟨59, [C.dead, C.dead, C.dead, C.dead, C.dead], [(0, C.v (vI .i64 kind1)), (1, C.v (vI .i64 test2)), (2, C.v (vS eJ next3)), (3, C.v (vI .i64 many4)), (9, C.pr 0 0)], [], [(0, [C.own (vI .i64 blocks5)])]⟩
def J0_0 (kind1 : Int) (test2 : Int) (next3 : List Int) (many4 : Int) (blocks5 : Int) (o : Bool) : TL := ⟨59, [C.dead, C.dead, C.dead, C.dead, C.dead], [(0, C.v (vI .i64 kind1)), (2, C.v (vS eJ next3)), (9, C.pr 0 0), (28, C.v (vB o))], [], [(0, [C.own (vI .i64 blocks5)])]⟩
def Q0 (kind1 : Int) (test2 : Int) (next3 : List Int) (many4 : Int) (blocks5 : Int) (r : Bool) (e : Exit) (st : St) : Prop := (fun o => e = .normal ∧ Le st (J0_0 kind1 test2 next3 many4 blocks5 o).sl.st) r
def p0 (fuel : Nat) (kind1 : Int) (test2 : Int) (next3 : List Int) (many4 : Int) (blocks5 : Int) : Option Bool :=
  (F218.fn fuel kind1).bind fun r6 =>
  cond (r6)
  ((F97.fn fuel test2 0 (w64 (many4 - 1))).bind fun r9 =>
    cond (!r9)
    (some true)
    ((F218.fn fuel kind1).bind fun r12 =>
      cond (!r12)
      (some (!decide (test2 = 0)))
      (some false)))
  ((F218.fn fuel kind1).bind fun r15 =>
    cond (!r15)
    (some (!decide (test2 = 0)))
    (some false))
theorem p0_c (fuel : Nat) (kind1 : Int) (test2 : Int) (next3 : List Int) (many4 : Int) (blocks5 : Int) (r : Bool) (h : p0 fuel kind1 test2 next3 many4 blocks5 = some r) : TW Try.prog B0 (I0 kind1 test2 next3 many4 blocks5).sl.st (Q0 kind1 test2 next3 many4 blocks5 r) := by
  unfold p0 at h
  obtain ⟨r6, h7, h⟩ := bind_cases h
  rcases cond_cases h with ⟨h8, h⟩ | ⟨h8, h⟩
  · 
    obtain ⟨r9, h10, h⟩ := bind_cases h
    rcases cond_cases h with ⟨h11, h⟩ | ⟨h11, h⟩
    · 
      obtain rfl := Option.some.inj h
      exact runAt_S (Q := Q0 kind1 test2 next3 many4 blocks5 _) (n := 100000) (c := (.code B0)) (K := []) (s := (I0 kind1 test2 next3 many4 blocks5).sl) (e := .normal) (t := J0_0 kind1 test2 next3 many4 blocks5 true) (l := [(0, 0)])
        (hs := [.call ⟨[.ro], 9, [], true, [], (vB r6), [], 1⟩, .skip, .g (.env 13 (C.v (vB true))), hA, .call ⟨[.ro, .ro, .ro], 9, [], true, [], (vB r9), [], 1⟩, hA, .skip, .skip, .g (.env 20 (C.v (vB true)))])
        (ps := [CallOK Try.prog 218 [.ro (vI .i64 kind1)] [] (vB r6), C.v (vB r6) = C.v (vB true), CallOK Try.prog 97 [.ro (vI .i64 test2), .ro (vI .i64 0), .ro (vI .i64 (w64 (many4 - 1)))] [] (vB r9), C.v (vB (!r9)) = C.v (vB true), (kind1 : Int) = kind1, ((vS eJ next3) : V) = (vS eJ next3), 0 = 0, (true : Bool) = true, (blocks5 : Int) = blocks5])
        (by kernel_rfl) ⟨F218.fn_c fuel kind1 _ h7, vbB h8, F97.fn_c fuel test2 0 (w64 (many4 - 1)) _ h10, vbB h11, rfl, rfl, rfl, rfl, rfl, trivial⟩ (fun st hl => ⟨rfl, hl⟩)
    · 
      obtain ⟨r12, h13, h⟩ := bind_cases h
      rcases cond_cases h with ⟨h14, h⟩ | ⟨h14, h⟩
      · 
        obtain rfl := Option.some.inj h
        exact runAt_S (Q := Q0 kind1 test2 next3 many4 blocks5 _) (n := 100000) (c := (.code B0)) (K := []) (s := (I0 kind1 test2 next3 many4 blocks5).sl) (e := .normal) (t := J0_0 kind1 test2 next3 many4 blocks5 (!decide (test2 = 0))) (l := [(0, 0)])
          (hs := [.call ⟨[.ro], 9, [], true, [], (vB r6), [], 1⟩, .skip, .g (.env 13 (C.v (vB true))), hA, .call ⟨[.ro, .ro, .ro], 9, [], true, [], (vB r9), [], 1⟩, hA, .skip, .skip, .g (.env 20 (C.v (vB false))), .call ⟨[.ro], 9, [], true, [], (vB r12), [], 1⟩, hA, .skip, .g (.env 24 (C.v (vB true))), hA])
          (ps := [CallOK Try.prog 218 [.ro (vI .i64 kind1)] [] (vB r6), C.v (vB r6) = C.v (vB true), CallOK Try.prog 97 [.ro (vI .i64 test2), .ro (vI .i64 0), .ro (vI .i64 (w64 (many4 - 1)))] [] (vB r9), C.v (vB (!r9)) = C.v (vB false), CallOK Try.prog 218 [.ro (vI .i64 kind1)] [] (vB r12), C.v (vB (!r12)) = C.v (vB true), (kind1 : Int) = kind1, ((vS eJ next3) : V) = (vS eJ next3), 0 = 0, (!decide (test2 = 0) : Bool) = (!decide (test2 = 0)), (blocks5 : Int) = blocks5])
          (by kernel_rfl) ⟨F218.fn_c fuel kind1 _ h7, vbB h8, F97.fn_c fuel test2 0 (w64 (many4 - 1)) _ h10, vbB h11, F218.fn_c fuel kind1 _ h13, vbB h14, rfl, rfl, rfl, rfl, rfl, trivial⟩ (fun st hl => ⟨rfl, hl⟩)
      · 
        obtain rfl := Option.some.inj h
        exact runAt_S (Q := Q0 kind1 test2 next3 many4 blocks5 _) (n := 100000) (c := (.code B0)) (K := []) (s := (I0 kind1 test2 next3 many4 blocks5).sl) (e := .normal) (t := J0_0 kind1 test2 next3 many4 blocks5 false) (l := [(0, 0)])
          (hs := [.call ⟨[.ro], 9, [], true, [], (vB r6), [], 1⟩, .skip, .g (.env 13 (C.v (vB true))), hA, .call ⟨[.ro, .ro, .ro], 9, [], true, [], (vB r9), [], 1⟩, hA, .skip, .skip, .g (.env 20 (C.v (vB false))), .call ⟨[.ro], 9, [], true, [], (vB r12), [], 1⟩, hA, .skip, .g (.env 24 (C.v (vB false)))])
          (ps := [CallOK Try.prog 218 [.ro (vI .i64 kind1)] [] (vB r6), C.v (vB r6) = C.v (vB true), CallOK Try.prog 97 [.ro (vI .i64 test2), .ro (vI .i64 0), .ro (vI .i64 (w64 (many4 - 1)))] [] (vB r9), C.v (vB (!r9)) = C.v (vB false), CallOK Try.prog 218 [.ro (vI .i64 kind1)] [] (vB r12), C.v (vB (!r12)) = C.v (vB false), (kind1 : Int) = kind1, ((vS eJ next3) : V) = (vS eJ next3), 0 = 0, (false : Bool) = false, (blocks5 : Int) = blocks5])
          (by kernel_rfl) ⟨F218.fn_c fuel kind1 _ h7, vbB h8, F97.fn_c fuel test2 0 (w64 (many4 - 1)) _ h10, vbB h11, F218.fn_c fuel kind1 _ h13, vbB h14, rfl, rfl, rfl, rfl, rfl, trivial⟩ (fun st hl => ⟨rfl, hl⟩)
  · 
    obtain ⟨r15, h16, h⟩ := bind_cases h
    rcases cond_cases h with ⟨h17, h⟩ | ⟨h17, h⟩
    · 
      obtain rfl := Option.some.inj h
      exact runAt_S (Q := Q0 kind1 test2 next3 many4 blocks5 _) (n := 100000) (c := (.code B0)) (K := []) (s := (I0 kind1 test2 next3 many4 blocks5).sl) (e := .normal) (t := J0_0 kind1 test2 next3 many4 blocks5 (!decide (test2 = 0))) (l := [(0, 0)])
        (hs := [.call ⟨[.ro], 9, [], true, [], (vB r6), [], 1⟩, .skip, .g (.env 13 (C.v (vB false))), .call ⟨[.ro], 9, [], true, [], (vB r15), [], 1⟩, hA, .skip, .g (.env 24 (C.v (vB true))), hA])
        (ps := [CallOK Try.prog 218 [.ro (vI .i64 kind1)] [] (vB r6), C.v (vB r6) = C.v (vB false), CallOK Try.prog 218 [.ro (vI .i64 kind1)] [] (vB r15), C.v (vB (!r15)) = C.v (vB true), (kind1 : Int) = kind1, ((vS eJ next3) : V) = (vS eJ next3), 0 = 0, (!decide (test2 = 0) : Bool) = (!decide (test2 = 0)), (blocks5 : Int) = blocks5])
        (by kernel_rfl) ⟨F218.fn_c fuel kind1 _ h7, vbB h8, F218.fn_c fuel kind1 _ h16, vbB h17, rfl, rfl, rfl, rfl, rfl, trivial⟩ (fun st hl => ⟨rfl, hl⟩)
    · 
      obtain rfl := Option.some.inj h
      exact runAt_S (Q := Q0 kind1 test2 next3 many4 blocks5 _) (n := 100000) (c := (.code B0)) (K := []) (s := (I0 kind1 test2 next3 many4 blocks5).sl) (e := .normal) (t := J0_0 kind1 test2 next3 many4 blocks5 false) (l := [(0, 0)])
        (hs := [.call ⟨[.ro], 9, [], true, [], (vB r6), [], 1⟩, .skip, .g (.env 13 (C.v (vB false))), .call ⟨[.ro], 9, [], true, [], (vB r15), [], 1⟩, hA, .skip, .g (.env 24 (C.v (vB false)))])
        (ps := [CallOK Try.prog 218 [.ro (vI .i64 kind1)] [] (vB r6), C.v (vB r6) = C.v (vB false), CallOK Try.prog 218 [.ro (vI .i64 kind1)] [] (vB r15), C.v (vB (!r15)) = C.v (vB false), (kind1 : Int) = kind1, ((vS eJ next3) : V) = (vS eJ next3), 0 = 0, (false : Bool) = false, (blocks5 : Int) = blocks5])
        (by kernel_rfl) ⟨F218.fn_c fuel kind1 _ h7, vbB h8, F218.fn_c fuel kind1 _ h16, vbB h17, rfl, rfl, rfl, rfl, rfl, trivial⟩ (fun st hl => ⟨rfl, hl⟩)
def fn (fuel : Nat) (kind0 : Int) (test1 : Int) (next2 : List Int) (many3 : Int) (blocks4 : Int) : Option Bool :=
  (p0 fuel kind0 test1 next2 many3 blocks4).bind fun r18 =>
  cond (r18)
  (some false)
  ((F203_219.fn fuel next2 blocks4).bind fun r21 =>
    cond (r21.1)
    (some false)
    (cond (decide (kind0 = 1))
      (some (decide ((next2.length : Int) = 1)))
      (cond (decide (kind0 = 2))
        (some (decide ((next2.length : Int) = 2)))
        (cond (decide (kind0 = 5))
          ((F97.fn fuel (next2.length : Int) 2 6).bind fun r27 =>
            some r27)
          (cond (decide (kind0 = 3))
            (some (decide ((next2.length : Int) = 0)))
            (cond (decide (kind0 = 4))
              (some (decide ((next2.length : Int) = 0)))
              (some false)))))))
theorem ent : enterable Try.prog 157 = true := by kernel_rfl
theorem fn_c (fuel : Nat) (kind0 : Int) (test1 : Int) (next2 : List Int) (many3 : Int) (blocks4 : Int) (r : Bool) (h : fn fuel kind0 test1 next2 many3 blocks4 = some r) : CallOK Try.prog 157 [.ro (vI .i64 kind0), .ro (vI .i64 test1), .ro (vS eJ next2), .ro (vI .i64 many3), .ro (vI .i64 blocks4)] [] (vB r) := by
  refine contract_run Try.func157 (b := bod Try.f157) rfl ent ?_
  unfold fn at h
  obtain ⟨r18, h19, h⟩ := bind_cases h
  refine runTo_S (n := 5) (c := (.code (bod Try.f157))) (K := []) (b := (.code B0)) (K1 := K0) (t := I0 kind0 test1 next2 many3 blocks4) (l := [(0, 0)])
    (hs := [.h (.new 0)])
    (ps := [(kind0 : Int) = kind0, (test1 : Int) = test1, ((vS eJ next2) : V) = (vS eJ next2), (many3 : Int) = many3, 0 = 0, (blocks4 : Int) = blocks4])
    (by kernel_rfl) ⟨rfl, rfl, rfl, rfl, rfl, rfl, trivial⟩ (cut_code ?_)
  refine TW.mono_le (p0_c fuel kind0 test1 next2 many3 blocks4 _ h19) ?_
  rintro e st hq
  obtain ⟨rfl, hl⟩ := hq
  refine ⟨_, hl, ?_⟩
  rcases cond_cases h with ⟨h20, h⟩ | ⟨h20, h⟩
  · 
    obtain rfl := Option.some.inj h
    exact runRet_S (r := ⟨Try.f157.results.toList, _, _, _, [], 9⟩) (n := 100000) (c := (.out .normal)) (K := K0) (s := (J0_0 kind0 test1 next2 many3 blocks4 r18).sl)
      (hs := [.g (.env 28 (C.v (vB true)))])
      (ps := [C.v (vB r18) = C.v (vB true), (false : Bool) = false])
      (by kernel_rfl) ⟨vbB h20, rfl, trivial⟩ rfl (fun _ _ h => h)
  · 
    obtain ⟨r21, h22, h⟩ := bind_cases h
    rcases cond_cases h with ⟨h23, h⟩ | ⟨h23, h⟩
    · 
      obtain rfl := Option.some.inj h
      exact runRet_S (r := ⟨Try.f157.results.toList, _, _, _, [], 9⟩) (n := 100000) (c := (.out .normal)) (K := K0) (s := (J0_0 kind0 test1 next2 many3 blocks4 r18).sl)
        (hs := [.g (.env 28 (C.v (vB false))), .call ⟨[.ro, (.io none)], 9, [], true, [(.fn 219 [(.bx [(vI .i64 r21.2)])])], (vB r21.1), [[C.own (vI .i64 r21.2)]], 1⟩, .g (.env 31 (C.v (vB true)))])
        (ps := [C.v (vB r18) = C.v (vB false), CallOK Try.prog 203 [.ro (vS eJ next2), .io (.fn 219 [(.bx [(vI .i64 blocks4)])])] [(.fn 219 [(.bx [(vI .i64 r21.2)])])] (vB r21.1), ([(vI .i64 r21.2)] : List V).length = 1, ([(vI .i64 r21.2)] : List V).length = 1 ∨ ([C.own (vI .i64 blocks4)] : List C).length ≤ 0 + 1, ([C.own (vI .i64 blocks4)] : List C).take 0 ++ ([(vI .i64 r21.2)] : List V).map C.own ++ ([C.own (vI .i64 blocks4)] : List C).drop (0 + 1) = [C.own (vI .i64 r21.2)], C.v (vB r21.1) = C.v (vB true), (false : Bool) = false])
        (by kernel_rfl) ⟨vbB h20, F203_219.fn_c fuel next2 blocks4 _ h22, rfl, .inl rfl, rfl, vbB h23, rfl, trivial⟩ rfl (fun _ _ h => h)
    · 
      rcases cond_cases h with ⟨h24, h⟩ | ⟨h24, h⟩
      · 
        obtain rfl := Option.some.inj h
        exact runRet_S (r := ⟨Try.f157.results.toList, _, _, _, [], 9⟩) (n := 100000) (c := (.out .normal)) (K := K0) (s := (J0_0 kind0 test1 next2 many3 blocks4 r18).sl)
          (hs := [.g (.env 28 (C.v (vB false))), .call ⟨[.ro, (.io none)], 9, [], true, [(.fn 219 [(.bx [(vI .i64 r21.2)])])], (vB r21.1), [[C.own (vI .i64 r21.2)]], 1⟩, .g (.env 31 (C.v (vB false))), hA, .skip, .g (.env 33 (C.v (vB true))), hA, hA])
          (ps := [C.v (vB r18) = C.v (vB false), CallOK Try.prog 203 [.ro (vS eJ next2), .io (.fn 219 [(.bx [(vI .i64 blocks4)])])] [(.fn 219 [(.bx [(vI .i64 r21.2)])])] (vB r21.1), ([(vI .i64 r21.2)] : List V).length = 1, ([(vI .i64 r21.2)] : List V).length = 1 ∨ ([C.own (vI .i64 blocks4)] : List C).length ≤ 0 + 1, ([C.own (vI .i64 blocks4)] : List C).take 0 ++ ([(vI .i64 r21.2)] : List V).map C.own ++ ([C.own (vI .i64 blocks4)] : List C).drop (0 + 1) = [C.own (vI .i64 r21.2)], C.v (vB r21.1) = C.v (vB false), C.v (vB (decide (kind0 = 1))) = C.v (vB true), (decide ((next2.length : Int) = 1) : Bool) = (decide ((next2.length : Int) = 1))])
          (by kernel_rfl) ⟨vbB h20, F203_219.fn_c fuel next2 blocks4 _ h22, rfl, .inl rfl, rfl, vbB h23, vbB h24, rfl, trivial⟩ rfl (fun _ _ h => h)
      · 
        rcases cond_cases h with ⟨h25, h⟩ | ⟨h25, h⟩
        · 
          obtain rfl := Option.some.inj h
          exact runRet_S (r := ⟨Try.f157.results.toList, _, _, _, [], 9⟩) (n := 100000) (c := (.out .normal)) (K := K0) (s := (J0_0 kind0 test1 next2 many3 blocks4 r18).sl)
            (hs := [.g (.env 28 (C.v (vB false))), .call ⟨[.ro, (.io none)], 9, [], true, [(.fn 219 [(.bx [(vI .i64 r21.2)])])], (vB r21.1), [[C.own (vI .i64 r21.2)]], 1⟩, .g (.env 31 (C.v (vB false))), hA, .skip, .g (.env 33 (C.v (vB false))), hA, .skip, .g (.env 38 (C.v (vB true))), hA, hA])
            (ps := [C.v (vB r18) = C.v (vB false), CallOK Try.prog 203 [.ro (vS eJ next2), .io (.fn 219 [(.bx [(vI .i64 blocks4)])])] [(.fn 219 [(.bx [(vI .i64 r21.2)])])] (vB r21.1), ([(vI .i64 r21.2)] : List V).length = 1, ([(vI .i64 r21.2)] : List V).length = 1 ∨ ([C.own (vI .i64 blocks4)] : List C).length ≤ 0 + 1, ([C.own (vI .i64 blocks4)] : List C).take 0 ++ ([(vI .i64 r21.2)] : List V).map C.own ++ ([C.own (vI .i64 blocks4)] : List C).drop (0 + 1) = [C.own (vI .i64 r21.2)], C.v (vB r21.1) = C.v (vB false), C.v (vB (decide (kind0 = 1))) = C.v (vB false), C.v (vB (decide (kind0 = 2))) = C.v (vB true), (decide ((next2.length : Int) = 2) : Bool) = (decide ((next2.length : Int) = 2))])
            (by kernel_rfl) ⟨vbB h20, F203_219.fn_c fuel next2 blocks4 _ h22, rfl, .inl rfl, rfl, vbB h23, vbB h24, vbB h25, rfl, trivial⟩ rfl (fun _ _ h => h)
        · 
          rcases cond_cases h with ⟨h26, h⟩ | ⟨h26, h⟩
          · 
            obtain ⟨r27, h28, h⟩ := bind_cases h
            obtain rfl := Option.some.inj h
            exact runRet_S (r := ⟨Try.f157.results.toList, _, _, _, [], 9⟩) (n := 100000) (c := (.out .normal)) (K := K0) (s := (J0_0 kind0 test1 next2 many3 blocks4 r18).sl)
              (hs := [.g (.env 28 (C.v (vB false))), .call ⟨[.ro, (.io none)], 9, [], true, [(.fn 219 [(.bx [(vI .i64 r21.2)])])], (vB r21.1), [[C.own (vI .i64 r21.2)]], 1⟩, .g (.env 31 (C.v (vB false))), hA, .skip, .g (.env 33 (C.v (vB false))), hA, .skip, .g (.env 38 (C.v (vB false))), hA, .skip, .g (.env 43 (C.v (vB true))), hA, .call ⟨[.ro, .ro, .ro], 9, [], true, [], (vB r27), [], 1⟩])
              (ps := [C.v (vB r18) = C.v (vB false), CallOK Try.prog 203 [.ro (vS eJ next2), .io (.fn 219 [(.bx [(vI .i64 blocks4)])])] [(.fn 219 [(.bx [(vI .i64 r21.2)])])] (vB r21.1), ([(vI .i64 r21.2)] : List V).length = 1, ([(vI .i64 r21.2)] : List V).length = 1 ∨ ([C.own (vI .i64 blocks4)] : List C).length ≤ 0 + 1, ([C.own (vI .i64 blocks4)] : List C).take 0 ++ ([(vI .i64 r21.2)] : List V).map C.own ++ ([C.own (vI .i64 blocks4)] : List C).drop (0 + 1) = [C.own (vI .i64 r21.2)], C.v (vB r21.1) = C.v (vB false), C.v (vB (decide (kind0 = 1))) = C.v (vB false), C.v (vB (decide (kind0 = 2))) = C.v (vB false), C.v (vB (decide (kind0 = 5))) = C.v (vB true), CallOK Try.prog 97 [.ro (vI .i64 (next2.length : Int)), .ro (vI .i64 2), .ro (vI .i64 6)] [] (vB r27), (r27 : Bool) = r27])
              (by kernel_rfl) ⟨vbB h20, F203_219.fn_c fuel next2 blocks4 _ h22, rfl, .inl rfl, rfl, vbB h23, vbB h24, vbB h25, vbB h26, F97.fn_c fuel (next2.length : Int) 2 6 _ h28, rfl, trivial⟩ rfl (fun _ _ h => h)
          · 
            rcases cond_cases h with ⟨h29, h⟩ | ⟨h29, h⟩
            · 
              obtain rfl := Option.some.inj h
              exact runRet_S (r := ⟨Try.f157.results.toList, _, _, _, [], 9⟩) (n := 100000) (c := (.out .normal)) (K := K0) (s := (J0_0 kind0 test1 next2 many3 blocks4 r18).sl)
                (hs := [.g (.env 28 (C.v (vB false))), .call ⟨[.ro, (.io none)], 9, [], true, [(.fn 219 [(.bx [(vI .i64 r21.2)])])], (vB r21.1), [[C.own (vI .i64 r21.2)]], 1⟩, .g (.env 31 (C.v (vB false))), hA, .skip, .g (.env 33 (C.v (vB false))), hA, .skip, .g (.env 38 (C.v (vB false))), hA, .skip, .g (.env 43 (C.v (vB false))), hA, .skip, .g (.env 50 (C.v (vB true))), hA, hA])
                (ps := [C.v (vB r18) = C.v (vB false), CallOK Try.prog 203 [.ro (vS eJ next2), .io (.fn 219 [(.bx [(vI .i64 blocks4)])])] [(.fn 219 [(.bx [(vI .i64 r21.2)])])] (vB r21.1), ([(vI .i64 r21.2)] : List V).length = 1, ([(vI .i64 r21.2)] : List V).length = 1 ∨ ([C.own (vI .i64 blocks4)] : List C).length ≤ 0 + 1, ([C.own (vI .i64 blocks4)] : List C).take 0 ++ ([(vI .i64 r21.2)] : List V).map C.own ++ ([C.own (vI .i64 blocks4)] : List C).drop (0 + 1) = [C.own (vI .i64 r21.2)], C.v (vB r21.1) = C.v (vB false), C.v (vB (decide (kind0 = 1))) = C.v (vB false), C.v (vB (decide (kind0 = 2))) = C.v (vB false), C.v (vB (decide (kind0 = 5))) = C.v (vB false), C.v (vB (decide (kind0 = 3))) = C.v (vB true), (decide ((next2.length : Int) = 0) : Bool) = (decide ((next2.length : Int) = 0))])
                (by kernel_rfl) ⟨vbB h20, F203_219.fn_c fuel next2 blocks4 _ h22, rfl, .inl rfl, rfl, vbB h23, vbB h24, vbB h25, vbB h26, vbB h29, rfl, trivial⟩ rfl (fun _ _ h => h)
            · 
              rcases cond_cases h with ⟨h30, h⟩ | ⟨h30, h⟩
              · 
                obtain rfl := Option.some.inj h
                exact runRet_S (r := ⟨Try.f157.results.toList, _, _, _, [], 9⟩) (n := 100000) (c := (.out .normal)) (K := K0) (s := (J0_0 kind0 test1 next2 many3 blocks4 r18).sl)
                  (hs := [.g (.env 28 (C.v (vB false))), .call ⟨[.ro, (.io none)], 9, [], true, [(.fn 219 [(.bx [(vI .i64 r21.2)])])], (vB r21.1), [[C.own (vI .i64 r21.2)]], 1⟩, .g (.env 31 (C.v (vB false))), hA, .skip, .g (.env 33 (C.v (vB false))), hA, .skip, .g (.env 38 (C.v (vB false))), hA, .skip, .g (.env 43 (C.v (vB false))), hA, .skip, .g (.env 50 (C.v (vB false))), hA, .skip, .skip, .g (.env 54 (C.v (vB true))), hA, hA])
                  (ps := [C.v (vB r18) = C.v (vB false), CallOK Try.prog 203 [.ro (vS eJ next2), .io (.fn 219 [(.bx [(vI .i64 blocks4)])])] [(.fn 219 [(.bx [(vI .i64 r21.2)])])] (vB r21.1), ([(vI .i64 r21.2)] : List V).length = 1, ([(vI .i64 r21.2)] : List V).length = 1 ∨ ([C.own (vI .i64 blocks4)] : List C).length ≤ 0 + 1, ([C.own (vI .i64 blocks4)] : List C).take 0 ++ ([(vI .i64 r21.2)] : List V).map C.own ++ ([C.own (vI .i64 blocks4)] : List C).drop (0 + 1) = [C.own (vI .i64 r21.2)], C.v (vB r21.1) = C.v (vB false), C.v (vB (decide (kind0 = 1))) = C.v (vB false), C.v (vB (decide (kind0 = 2))) = C.v (vB false), C.v (vB (decide (kind0 = 5))) = C.v (vB false), C.v (vB (decide (kind0 = 3))) = C.v (vB false), C.v (vB (decide (kind0 = 4))) = C.v (vB true), (decide ((next2.length : Int) = 0) : Bool) = (decide ((next2.length : Int) = 0))])
                  (by kernel_rfl) ⟨vbB h20, F203_219.fn_c fuel next2 blocks4 _ h22, rfl, .inl rfl, rfl, vbB h23, vbB h24, vbB h25, vbB h26, vbB h29, vbB h30, rfl, trivial⟩ rfl (fun _ _ h => h)
              · 
                obtain rfl := Option.some.inj h
                exact runRet_S (r := ⟨Try.f157.results.toList, _, _, _, [], 9⟩) (n := 100000) (c := (.out .normal)) (K := K0) (s := (J0_0 kind0 test1 next2 many3 blocks4 r18).sl)
                  (hs := [.g (.env 28 (C.v (vB false))), .call ⟨[.ro, (.io none)], 9, [], true, [(.fn 219 [(.bx [(vI .i64 r21.2)])])], (vB r21.1), [[C.own (vI .i64 r21.2)]], 1⟩, .g (.env 31 (C.v (vB false))), hA, .skip, .g (.env 33 (C.v (vB false))), hA, .skip, .g (.env 38 (C.v (vB false))), hA, .skip, .g (.env 43 (C.v (vB false))), hA, .skip, .g (.env 50 (C.v (vB false))), hA, .skip, .skip, .g (.env 54 (C.v (vB false)))])
                  (ps := [C.v (vB r18) = C.v (vB false), CallOK Try.prog 203 [.ro (vS eJ next2), .io (.fn 219 [(.bx [(vI .i64 blocks4)])])] [(.fn 219 [(.bx [(vI .i64 r21.2)])])] (vB r21.1), ([(vI .i64 r21.2)] : List V).length = 1, ([(vI .i64 r21.2)] : List V).length = 1 ∨ ([C.own (vI .i64 blocks4)] : List C).length ≤ 0 + 1, ([C.own (vI .i64 blocks4)] : List C).take 0 ++ ([(vI .i64 r21.2)] : List V).map C.own ++ ([C.own (vI .i64 blocks4)] : List C).drop (0 + 1) = [C.own (vI .i64 r21.2)], C.v (vB r21.1) = C.v (vB false), C.v (vB (decide (kind0 = 1))) = C.v (vB false), C.v (vB (decide (kind0 = 2))) = C.v (vB false), C.v (vB (decide (kind0 = 5))) = C.v (vB false), C.v (vB (decide (kind0 = 3))) = C.v (vB false), C.v (vB (decide (kind0 = 4))) = C.v (vB false), (false : Bool) = false])
                  (by kernel_rfl) ⟨vbB h20, F203_219.fn_c fuel next2 blocks4 _ h22, rfl, .inl rfl, rfl, vbB h23, vbB h24, vbB h25, vbB h26, vbB h29, vbB h30, rfl, trivial⟩ rfl (fun _ _ h => h)
end F157
namespace F155i
/-! impl.GoodFlow$1 -/
def fn (fuel : Nat) (b0 : T115) (cap0 : List T115) : Option (Bool × (List T115)) :=
  (F156.fn fuel b0.f0 12).bind fun r1 =>
  cond (!r1)
  (some (true, cap0))
  ((F157.fn fuel b0.f1 b0.f2 b0.f3 12 (cap0.length : Int)).bind fun r4 =>
    some (!r4, cap0))
theorem ent : enterable Try.prog 155 = true := by kernel_rfl
theorem fn_c (fuel : Nat) (b0 : T115) (cap0 : List T115) (r : Bool × (List T115)) (h : fn fuel b0 cap0 = some r) : CallOK Try.prog 155 [.ro (.ag (eT115.f b0)), .io (.bx [(.im (vS eT115 cap0))])] [(.bx [(.im (vS eT115 r.2))])] (vB r.1) := by
  refine contract_run Try.func155 (b := bod Try.f155) rfl ent ?_
  unfold fn at h
  obtain ⟨r1, h2, h⟩ := bind_cases h
  rcases cond_cases h with ⟨h3, h⟩ | ⟨h3, h⟩
  · 
    obtain rfl := Option.some.inj h
    exact runRet_S (r := ⟨Try.f155.results.toList, _, _, _, [], 9⟩) (n := 100000) (c := (.code (bod Try.f155))) (K := [])
      (hs := [.h (.new 1), hA, .call ⟨[.ro, .ro], 9, [], true, [], (vB r1), [], 2⟩, hA, .skip, .g (.env 8 (C.v (vB true)))])
      (ps := [CallOK Try.prog 156 [.ro (vS eT131 b0.f0), .ro (vI .i64 12)] [] (vB r1), C.v (vB (!r1)) = C.v (vB true), (.bx [(.im (vS eT115 cap0))] : V) = .bx [(.im (vS eT115 cap0))], (true : Bool) = true])
      (by kernel_rfl) ⟨F156.fn_c fuel b0.f0 12 _ h2, vbB h3, rfl, rfl, trivial⟩ rfl (fun _ _ h => h)
  · 
    obtain ⟨r4, h5, h⟩ := bind_cases h
    obtain rfl := Option.some.inj h
    exact runRet_S (r := ⟨Try.f155.results.toList, _, _, _, [], 9⟩) (n := 100000) (c := (.code (bod Try.f155))) (K := [])
      (hs := [.h (.new 1), hA, .call ⟨[.ro, .ro], 9, [], true, [], (vB r1), [], 2⟩, hA, .skip, .g (.env 8 (C.v (vB false))), hA, hA, hA, hA, hA, .call ⟨[.ro, .ro, .ro, .ro, .ro], 9, [], true, [], (vB r4), [], 2⟩, hA])
      (ps := [CallOK Try.prog 156 [.ro (vS eT131 b0.f0), .ro (vI .i64 12)] [] (vB r1), C.v (vB (!r1)) = C.v (vB false), CallOK Try.prog 157 [.ro (vI .i64 b0.f1), .ro (vI .i64 b0.f2), .ro (vS eJ b0.f3), .ro (vI .i64 12), .ro (vI .i64 (cap0.length : Int))] [] (vB r4), (.bx [(.im (vS eT115 cap0))] : V) = .bx [(.im (vS eT115 cap0))], (!r4 : Bool) = (!r4)])
      (by kernel_rfl) ⟨F156.fn_c fuel b0.f0 12 _ h2, vbB h3, F157.fn_c fuel b0.f1 b0.f2 b0.f3 12 (cap0.length : Int) _ h5, rfl, rfl, trivial⟩ rfl (fun _ _ h => h)
end F155i
namespace F214_155i
/-! slices.IndexFunc[[]impl.Block,impl.Block] -/
noncomputable def K0 := (subC [1, 0, 1, 0] (bod Try.f214) []).2
noncomputable def L0 := (subC [1, 0, 1, 0, 0] (bod Try.f214) []).1
def I0 (v1 : List T115) (s2 : List T115) (v3 : Int) (v4 : Int) : TL := ⟨19, [C.dead, C.fn 155 [C.pr 0 0]], [(0, C.v (vS eT115 s2)), (1, C.fn 155 [C.pr 0 0]), (7, C.v (vI .i64 v3)), (8, C.v (vI .i64 v4))], [], [(0, [C.own (.im (vS eT115 v1))])]⟩
def J0_0 (s2 : List T115) (v3 : Int) (o : (List T115) × Int) : TL := ⟨19, [C.dead, C.fn 155 [C.pr 0 0]], [(4, C.v (vI .i64 o.2))], [], [(0, [C.own (.im (vS eT115 o.1))])]⟩
def J0_1 (s2 : List T115) (v3 : Int) (o : (List T115)) : TL := ⟨19, [C.dead, C.fn 155 [C.pr 0 0]], [], [], [(0, [C.own (.im (vS eT115 o))])]⟩
def Q0 (s2 : List T115) (v3 : Int) (r : ((List T115) × Int) ⊕ (List T115)) (e : Exit) (st : St) : Prop := (Sum.elim (fun o => e = .ret ∧ Le st (J0_0 s2 v3 o).sl.st) (fun o => e = (.exit 0) ∧ Le st (J0_1 s2 v3 o).sl.st)) r
def p0 (fuel : Nat) (s2 : List T115) (v3 : Int) : Nat → (List T115) → Int → Option (((List T115) × Int) ⊕ (List T115))
  | 0, _, _ => none
  | n + 1, v1, v4 =>
    cond (decide (v4 < v3))
    ((idx v4 s2.length).bind fun j6 =>
      (F155i.fn fuel (s2.getD j6 (default : T115)) v1).bind fun r8 =>
      cond (r8.1)
      (some (.inl (r8.2, v4)))
      (p0 fuel s2 v3 n r8.2 (w64 (v4 + 1))))
    (some (.inr v1))
theorem p0_c (fuel : Nat) (s2 : List T115) (v3 : Int) (n : Nat) (v1 : List T115) (v4 : Int) (r : ((List T115) × Int) ⊕ (List T115)) (h : p0 fuel s2 v3 n v1 v4 = some r) : TW Try.prog (.loop L0) (I0 v1 s2 v3 v4).sl.st (Q0 s2 v3 r) := by
  refine loop_run (σ := (List T115) × Int) (fun x => I0 x.1 s2 v3 x.2) (fun n x => p0 fuel s2 v3 n x.1 x.2) (Q0 s2 v3) ?_ (fun _ => rfl) (x := (v1, v4)) h
  clear h
  rintro n ⟨v1, v4⟩ r h
  replace h : p0 fuel s2 v3 (n + 1) v1 v4 = some r := h
  rw [p0] at h
  rcases cond_cases h with ⟨h5, h⟩ | ⟨h5, h⟩
  · 
    obtain ⟨j6, h7, h⟩ := bind_cases h
    obtain ⟨r8, h9, h⟩ := bind_cases h
    rcases cond_cases h with ⟨h10, h⟩ | ⟨h10, h⟩
    · 
      obtain rfl := Option.some.inj h
      exact runAt_S (Q := Round _ (n + 1) _) (n := 100000) (c := (.code L0)) (K := []) (s := (I0 v1 s2 v3 v4).sl) (e := .ret) (t := J0_0 s2 v3 (r8.2, v4)) (l := [(0, 0)])
        (hs := [hA, .g (.env 9 (C.v (vB true))), .h (.idv j6 (eT115.f (s2.getD j6 (default : T115)) ++ (cs eT115 (s2.drop (j6 + 1))))), hA, .call ⟨[.ro, (.io none)], 9, [], true, [(.bx [(.im (vS eT115 r8.2))])], (vB r8.1), [[C.own (.im (vS eT115 r8.2))]], 1⟩, .g (.env 16 (C.v (vB true)))])
        (ps := [C.v (vB (decide (v4 < v3))) = C.v (vB true), v4 = (j6 : Int), j6 < s2.length, (cs eT115 s2).drop (j6 * 4) = (eT115.f (s2.getD j6 (default : T115)) ++ (cs eT115 (s2.drop (j6 + 1)))), cs eT115 s2 ≠ [], CallOK Try.prog 155 [.ro (.ag [(vS eT131 ((s2.getD j6 (default : T115)).f0)), (vI .i64 ((s2.getD j6 (default : T115)).f1)), (vI .i64 ((s2.getD j6 (default : T115)).f2)), (vS eJ ((s2.getD j6 (default : T115)).f3))]), .io (.bx [(.im (vS eT115 v1))])] [(.bx [(.im (vS eT115 r8.2))])] (vB r8.1), ([(.im (vS eT115 r8.2))] : List V).length = 1, ([(.im (vS eT115 r8.2))] : List V).length = 1 ∨ ([C.own (.im (vS eT115 v1))] : List C).length ≤ 0 + 1, ([C.own (.im (vS eT115 v1))] : List C).take 0 ++ ([(.im (vS eT115 r8.2))] : List V).map C.own ++ ([C.own (.im (vS eT115 v1))] : List C).drop (0 + 1) = [C.own (.im (vS eT115 r8.2))], C.v (vB r8.1) = C.v (vB true), 0 = 0, (v4 : Int) = v4, (V.im (vS eT115 r8.2)) = V.im (vS eT115 r8.2)])
        (by kernel_rfl) ⟨vbB h5, (idx_S h7).1, (idx_S h7).2, cs_from (e := eT115) (d := (default : T115)) (idx_S h7).2, cs_ne (e := eT115) (idx_S h7).2 (by decide), F155i.fn_c fuel (s2.getD j6 (default : T115)) v1 _ h9, rfl, .inl rfl, rfl, vbB h10, rfl, rfl, rfl, trivial⟩ (fun st hl => ⟨rfl, hl⟩)
    · 
      exact runAt_S (Q := Round _ (n + 1) _) (n := 100000) (c := (.code L0)) (K := []) (s := (I0 v1 s2 v3 v4).sl) (e := .normal) (t := I0 r8.2 s2 v3 (w64 (v4 + 1))) (l := [(0, 0)])
        (hs := [hA, .g (.env 9 (C.v (vB true))), .h (.idv j6 (eT115.f (s2.getD j6 (default : T115)) ++ (cs eT115 (s2.drop (j6 + 1))))), hA, .call ⟨[.ro, (.io none)], 9, [], true, [(.bx [(.im (vS eT115 r8.2))])], (vB r8.1), [[C.own (.im (vS eT115 r8.2))]], 1⟩, .g (.env 16 (C.v (vB false))), hA])
        (ps := [C.v (vB (decide (v4 < v3))) = C.v (vB true), v4 = (j6 : Int), j6 < s2.length, (cs eT115 s2).drop (j6 * 4) = (eT115.f (s2.getD j6 (default : T115)) ++ (cs eT115 (s2.drop (j6 + 1)))), cs eT115 s2 ≠ [], CallOK Try.prog 155 [.ro (.ag [(vS eT131 ((s2.getD j6 (default : T115)).f0)), (vI .i64 ((s2.getD j6 (default : T115)).f1)), (vI .i64 ((s2.getD j6 (default : T115)).f2)), (vS eJ ((s2.getD j6 (default : T115)).f3))]), .io (.bx [(.im (vS eT115 v1))])] [(.bx [(.im (vS eT115 r8.2))])] (vB r8.1), ([(.im (vS eT115 r8.2))] : List V).length = 1, ([(.im (vS eT115 r8.2))] : List V).length = 1 ∨ ([C.own (.im (vS eT115 v1))] : List C).length ≤ 0 + 1, ([C.own (.im (vS eT115 v1))] : List C).take 0 ++ ([(.im (vS eT115 r8.2))] : List V).map C.own ++ ([C.own (.im (vS eT115 v1))] : List C).drop (0 + 1) = [C.own (.im (vS eT115 r8.2))], C.v (vB r8.1) = C.v (vB false), 0 = 0, ((vS eT115 s2) : V) = (vS eT115 s2), 0 = 0, (v3 : Int) = v3, (w64 (v4 + 1) : Int) = (w64 (v4 + 1)), (V.im (vS eT115 r8.2)) = V.im (vS eT115 r8.2)])
        (by kernel_rfl) ⟨vbB h5, (idx_S h7).1, (idx_S h7).2, cs_from (e := eT115) (d := (default : T115)) (idx_S h7).2, cs_ne (e := eT115) (idx_S h7).2 (by decide), F155i.fn_c fuel (s2.getD j6 (default : T115)) v1 _ h9, rfl, .inl rfl, rfl, vbB h10, rfl, rfl, rfl, rfl, rfl, rfl, trivial⟩ (fun st hl => ⟨n, _, Nat.lt_succ_self n, hl, (r8.2, w64 (v4 + 1)), rfl, rfl, h⟩)
  · 
    obtain rfl := Option.some.inj h
    exact runAt_S (Q := Round _ (n + 1) _) (n := 100000) (c := (.code L0)) (K := []) (s := (I0 v1 s2 v3 v4).sl) (e := (.exit 0)) (t := J0_1 s2 v3 v1) (l := [(0, 0)])
      (hs := [hA, .g (.env 9 (C.v (vB false)))])
      (ps := [C.v (vB (decide (v4 < v3))) = C.v (vB false), 0 = 0, (V.im (vS eT115 v1)) = V.im (vS eT115 v1)])
      (by kernel_rfl) ⟨vbB h5, rfl, rfl, trivial⟩ (fun st hl => ⟨rfl, hl⟩)
def fn (fuel : Nat) (s0 : List T115) (f1c0 : List T115) : Option (Int × (List T115)) :=
  (p0 fuel s0 (s0.length : Int) fuel f1c0 (0 : Int)).bind fun r11 =>
  (Sum.elim (fun y13 => some (y13.2, y13.1))
  (fun y14 => some ((-1), y14))) r11
theorem ent : enterable Try.prog 214 = true := by kernel_rfl
theorem fn_c (fuel : Nat) (s0 : List T115) (f1c0 : List T115) (r : Int × (List T115)) (h : fn fuel s0 f1c0 = some r) : CallOK Try.prog 214 [.ro (vS eT115 s0), .io (.fn 155 [.bx [(.im (vS eT115 f1c0))]])] [(.fn 155 [.bx [(.im (vS eT115 r.2))]])] (vI .i64 r.1) := by
  refine contract_run Try.func214 (b := bod Try.f214) rfl ent ?_
  unfold fn at h
  obtain ⟨r11, h12, h⟩ := bind_cases h
  refine runTo_S (n := 100000) (c := (.code (bod Try.f214))) (K := []) (b := (.code (.loop L0))) (K1 := K0) (t := I0 f1c0 s0 (s0.length : Int) (0 : Int)) (l := [(0, 0)])
    (hs := [hA])
    (ps := [0 = 0, ((vS eT115 s0) : V) = (vS eT115 s0), 0 = 0, ((s0.length : Int) : Int) = (s0.length : Int), (0 : Int) = (0 : Int), (V.im (vS eT115 f1c0)) = V.im (vS eT115 f1c0)])
    (by kernel_rfl) ⟨rfl, rfl, rfl, rfl, rfl, rfl, trivial⟩ (cut_code ?_)
  refine TW.mono_le (p0_c fuel s0 (s0.length : Int) fuel f1c0 (0 : Int) _ h12) ?_
  rcases r11 with y13 | y14
  · 
    replace h := sum_l h
    rintro e st hq
    obtain ⟨rfl, hl⟩ := hq
    refine ⟨_, hl, ?_⟩
    obtain rfl := Option.some.inj h
    exact runRet_S (r := ⟨Try.f214.results.toList, _, _, _, [], 9⟩) (n := 100000) (c := (.out .ret)) (K := K0) (s := (J0_0 s0 (s0.length : Int) y13).sl)
      (hs := [])
      (ps := [(.fn 155 [.bx [(.im (vS eT115 y13.1))]] : V) = .fn 155 [.bx [(.im (vS eT115 y13.1))]], (y13.2 : Int) = y13.2])
      (by kernel_rfl) ⟨rfl, rfl, trivial⟩ rfl (fun _ _ h => h)
  · 
    replace h := sum_r h
    rintro e st hq
    obtain ⟨rfl, hl⟩ := hq
    refine ⟨_, hl, ?_⟩
    obtain rfl := Option.some.inj h
    exact runRet_S (r := ⟨Try.f214.results.toList, _, _, _, [], 9⟩) (n := 100000) (c := (.out (.exit 0))) (K := K0) (s := (J0_1 s0 (s0.length : Int) y14).sl)
      (hs := [])
      (ps := [(.fn 155 [.bx [(.im (vS eT115 y14))]] : V) = .fn 155 [.bx [(.im (vS eT115 y14))]], ((-1) : Int) = (-1)])
      (by kernel_rfl) ⟨rfl, rfl, trivial⟩ rfl (fun _ _ h => h)
end F214_155i
namespace F154_155i
/-! slices.ContainsFunc[[]impl.Block,impl.Block] -/
def fn (fuel : Nat) (s0 : List T115) (f1c0 : List T115) : Option (Bool × (List T115)) :=
  (F214_155i.fn fuel s0 f1c0).bind fun r1 =>
  some (decide (r1.1 ≥ 0), r1.2)
theorem ent : enterable Try.prog 154 = true := by kernel_rfl
theorem fn_c (fuel : Nat) (s0 : List T115) (f1c0 : List T115) (r : Bool × (List T115)) (h : fn fuel s0 f1c0 = some r) : CallOK Try.prog 154 [.ro (vS eT115 s0), .io (.fn 155 [.bx [(.im (vS eT115 f1c0))]])] [(.fn 155 [.bx [(.im (vS eT115 r.2))]])] (vB r.1) := by
  refine contract_run Try.func154 (b := bod Try.f154) rfl ent ?_
  unfold fn at h
  obtain ⟨r1, h2, h⟩ := bind_cases h
  obtain rfl := Option.some.inj h
  exact runRet_S (r := ⟨Try.f154.results.toList, _, _, _, [], 9⟩) (n := 100000) (c := (.code (bod Try.f154))) (K := [])
    (hs := [.call ⟨[.ro, (.io none)], 9, [], true, [(.fn 155 [(.bx [(.im (vS eT115 r1.2))])])], (vI .i64 r1.1), [[C.own (.im (vS eT115 r1.2))]], 1⟩, hA])
    (ps := [CallOK Try.prog 214 [.ro (vS eT115 s0), .io (.fn 155 [(.bx [(.im (vS eT115 f1c0))])])] [(.fn 155 [(.bx [(.im (vS eT115 r1.2))])])] (vI .i64 r1.1), ([(.im (vS eT115 r1.2))] : List V).length = 1, ([(.im (vS eT115 r1.2))] : List V).length = 1 ∨ ([C.own (.im (vS eT115 f1c0))] : List C).length ≤ 0 + 1, ([C.own (.im (vS eT115 f1c0))] : List C).take 0 ++ ([(.im (vS eT115 r1.2))] : List V).map C.own ++ ([C.own (.im (vS eT115 f1c0))] : List C).drop (0 + 1) = [C.own (.im (vS eT115 r1.2))], (.fn 155 [.bx [(.im (vS eT115 r1.2))]] : V) = .fn 155 [.bx [(.im (vS eT115 r1.2))]], (decide (r1.1 ≥ 0) : Bool) = (decide (r1.1 ≥ 0))])
    (by kernel_rfl) ⟨F214_155i.fn_c fuel s0 f1c0 _ h2, rfl, .inl rfl, rfl, rfl, rfl, trivial⟩ rfl (fun _ _ h => h)
end F154_155i
namespace F96
/-! impl.GoodFlow -/
def fn (fuel : Nat) (f0 : List T115) : Option Bool :=
  (F97.fn fuel (f0.length : Int) 1 64).bind fun r1 =>
  cond (!r1)
  (some false)
  ((F154_155i.fn fuel f0 f0).bind fun r4 =>
    some (!r4.1))
theorem ent : enterable Try.prog 96 = true := by kernel_rfl
theorem fn_c (fuel : Nat) (f0 : List T115) (r : Bool) (h : fn fuel f0 = some r) : CallOK Try.prog 96 [.ro (vS eT115 f0)] [] (vB r) := by
  refine contract_run Try.func96 (b := bod Try.f96) rfl ent ?_
  unfold fn at h
  obtain ⟨r1, h2, h⟩ := bind_cases h
  rcases cond_cases h with ⟨h3, h⟩ | ⟨h3, h⟩
  · 
    obtain rfl := Option.some.inj h
    exact runRet_S (r := ⟨Try.f96.results.toList, _, _, _, [], 9⟩) (n := 100000) (c := (.code (bod Try.f96))) (K := [])
      (hs := [.h (.new 0), hA, hA, .call ⟨[.ro, .ro, .ro], 9, [], true, [], (vB r1), [], 1⟩, hA, .g (.env 6 (C.v (vB true)))])
      (ps := [CallOK Try.prog 97 [.ro (vI .i64 (f0.length : Int)), .ro (vI .i64 1), .ro (vI .i64 64)] [] (vB r1), C.v (vB (!r1)) = C.v (vB true), (false : Bool) = false])
      (by kernel_rfl) ⟨F97.fn_c fuel (f0.length : Int) 1 64 _ h2, vbB h3, rfl, trivial⟩ rfl (fun _ _ h => h)
  · 
    obtain ⟨r4, h5, h⟩ := bind_cases h
    obtain rfl := Option.some.inj h
    exact runRet_S (r := ⟨Try.f96.results.toList, _, _, _, [], 9⟩) (n := 100000) (c := (.code (bod Try.f96))) (K := [])
      (hs := [.h (.new 0), hA, hA, .call ⟨[.ro, .ro, .ro], 9, [], true, [], (vB r1), [], 1⟩, hA, .g (.env 6 (C.v (vB false))), hA, .call ⟨[.ro, (.io none)], 9, [], true, [(.fn 155 [(.bx [(.im (vS eT115 r4.2))])])], (vB r4.1), [[C.own (.im (vS eT115 r4.2))]], 1⟩, hA])
      (ps := [CallOK Try.prog 97 [.ro (vI .i64 (f0.length : Int)), .ro (vI .i64 1), .ro (vI .i64 64)] [] (vB r1), C.v (vB (!r1)) = C.v (vB false), CallOK Try.prog 154 [.ro (vS eT115 f0), .io (.fn 155 [(.bx [(.im (vS eT115 f0))])])] [(.fn 155 [(.bx [(.im (vS eT115 r4.2))])])] (vB r4.1), ([(.im (vS eT115 r4.2))] : List V).length = 1, ([(.im (vS eT115 r4.2))] : List V).length = 1 ∨ ([C.v (vS eT115 f0)] : List C).length ≤ 0 + 1, ([C.v (vS eT115 f0)] : List C).take 0 ++ ([(.im (vS eT115 r4.2))] : List V).map C.own ++ ([C.v (vS eT115 f0)] : List C).drop (0 + 1) = [C.own (.im (vS eT115 r4.2))], (!r4.1 : Bool) = (!r4.1)])
      (by kernel_rfl) ⟨F97.fn_c fuel (f0.length : Int) 1 64 _ h2, vbB h3, F154_155i.fn_c fuel f0 f0 _ h5, rfl, .inl rfl, rfl, rfl, trivial⟩ rfl (fun _ _ h => h)
end F96
namespace F158
/-! slices.Clone[[]int,int] -/
def fn (fuel : Nat) (s0 : List Int) : Option (List Int) :=
  (chk ((0 + s0.length) * 8 ≤ 140737488355328)).bind fun _ =>
  some s0
theorem ent : enterable Try.prog 158 = true := by kernel_rfl
noncomputable def K0 := (subC [1, 0, 0] (bod Try.f158) []).2
noncomputable def B0 := (subC [1, 0, 0] (bod Try.f158) []).1
def I0 (s0 : List Int) : TL := ⟨8, [C.dead], [(0, C.v (vS eJ s0)), (2, C.v (.sc (.slice none 0 0)))], [], []⟩
def J0 (s0 : List Int) (b : Bool) : TL := ⟨8, [C.dead], [(0, C.v (vS eJ s0)), (2, C.v (.sc (.slice none 0 0))), (3, C.v (vS eJ s0)), (4, C.v (vB b))], [], []⟩
noncomputable def o1 : Oper := (match (subC [1, 0, 0] (bod Try.f158) []).1 with | .region _ ops _ => ops[0]! | _ => default)
noncomputable def o2 : Oper := (match (subC [1, 0, 0] (bod Try.f158) []).1 with | .region _ ops _ => ops[1]! | _ => default)
theorem B0_eq : B0 = .region 1 #[o1, o2] false := by kernel_rfl
theorem p0_c (s0 : List Int) : TW Try.prog B0 (I0 s0).sl.st (fun e st => e = .normal ∧ ((Le st (J0 s0 true).sl.st ∧ s0 = []) ∨ Le st (J0 s0 false).sl.st)) := by
  rw [B0_eq]
  have hN : (I0 s0).sl.st.N = 8 := rfl
  have h0 : (I0 s0).sl.st.ev (.tmp 0) = some (C.v (vS eJ s0)) := rfl
  have hs0 : Step Try.prog o1 (I0 s0).sl.st ((I0 s0).sl.st.put (some 3) (.v (vS eJ s0))) := fun X a w hr => goes_move (o := o1) hr (x := .tmp 0) (.inl rfl) h0 (fun d hd => by cases hd; exact (by decide : 3 < 8))
  have hf : ((I0 s0).sl.st.put (some 3) (.v (vS eJ s0))).fits o2.dst := fun d hd => by cases hd; exact (by decide : 4 < 8)
  have k : ∀ X a w, R X ((I0 s0).sl.st.put (some 3) (.v (vS eJ s0))) a w → ∃ b : Bool, (b = true → cs eJ s0 = []) ∧ Goes Try.prog X o2 a w (((I0 s0).sl.st.put (some 3) (.v (vS eJ s0))).put (some 4) (.v (vB b))) := fun X a w hr => goes_nilSl (o := o2) hr (t := 42) (e := 3) (t' := 42) (x := .tmp 3) rfl rfl rfl hf
  have e : ∀ b : Bool, Le (((I0 s0).sl.st.put (some 3) (.v (vS eJ s0))).put (some 4) (.v (vB b))) (J0 s0 b).sl.st := by
    intro b
    have := evM_S (s := { (I0 s0).sl with env := (4, C.v (vB b)) :: (3, C.v (vS eJ s0)) :: (I0 s0).sl.env }) (t := J0 s0 b) (l := []) (ps := [(vS eJ s0 : V) = vS eJ s0, Value.slice none 0 0 = Value.slice none 0 0, (vS eJ s0 : V) = vS eJ s0, b = b]) (by kernel_rfl) ⟨rfl, rfl, rfl, rfl, trivial⟩
    simp only [SL.st, look_cons] at this
    exact this
  refine TW.fork2 (B := fun b => b = true → cs eJ s0 = []) rfl rfl hs0 k (fun b hb => ⟨rfl, ?_⟩)
  cases b with
  | true =>
    refine .inl ⟨e true, ?_⟩
    have := congrArg List.length (hb rfl)
    rw [cs_length] at this
    exact List.eq_nil_of_length_eq_zero (by simpa [eI] using this)
  | false => exact .inr (e false)
theorem fn_c (fuel : Nat) (s0 : List Int) (r : (List Int)) (h : fn fuel s0 = some r) : CallOK Try.prog 158 [.ro (vS eJ s0)] [] (vS eJ r) := by
  refine contract_run Try.func158 (b := bod Try.f158) rfl ent ?_
  unfold fn at h
  obtain ⟨_, h1, h⟩ := bind_cases h
  obtain rfl := Option.some.inj h
  refine runTo_S (n := 5) (c := (.code (bod Try.f158))) (K := []) (b := .code B0) (K1 := K0) (t := I0 s0) (l := [])
    (hs := [])
    (ps := [((vS eJ s0) : V) = (vS eJ s0), Value.slice none 0 0 = Value.slice none 0 0])
    (by kernel_rfl) ⟨rfl, rfl, trivial⟩ (cut_code ?_)
  refine TW.mono_le (p0_c s0) ?_
  rintro e st ⟨rfl, ⟨hl, rfl⟩ | hl⟩
  · refine ⟨_, hl, ?_⟩
    exact runRet_S (r := ⟨Try.f158.results.toList, _, _, _, [(0, (cs eJ ([] : List Int)), (cs eJ ([] : List Int)))], 9⟩) (n := 100000) (c := (.out .normal)) (K := K0) (s := (J0 [] true).sl)
      (hs := [.skip, .skip, .g (.nilE 2 0 1)])
      (ps := [([] : List C) = List.map C.own (cs eJ ([] : List Int)), 0 + 0 * 1 ≤ (cs eJ ([] : List Int)).length, List.take (0 * 1) (List.drop 0 (cs eJ ([] : List Int))) = cs eJ ([] : List Int), (V.sl 1 0 (cs eJ ([] : List Int))) = vS eJ ([] : List Int)])
      (by kernel_rfl) ⟨rfl, Nat.zero_le _, rfl, rfl, trivial⟩ rfl (fun _ _ h => h)
  · refine ⟨_, hl, ?_⟩
    exact runRet_S (r := ⟨Try.f158.results.toList, _, _, _, [(1, (cs eJ (([] : List Int) ++ s0)), (cs eJ (([] : List Int) ++ s0)))], 9⟩) (n := 100000) (c := (.out .normal)) (K := K0) (s := (J0 s0 false).sl)
      (hs := [.h (.new 0), .h (.apd 1 ((cs eJ s0).map C.v) (own (cs eJ (([] : List Int) ++ s0))))])
      (ps := [(cs eJ s0).length = s0.length * 1, (cs eJ s0).map C.v = ((cs eJ s0).map C.v), ((cs eJ s0).map C.v).all oneC = true, 0 + 0 * 1 ≤ (own (cs eJ ([] : List Int))).length, (0 + s0.length) * 8 ≤ 140737488355328, ((own (cs eJ ([] : List Int))).drop 0).take (0 * 1) ++ (((cs eJ s0).map C.v).map toCell) = (own (cs eJ (([] : List Int) ++ s0))), (own (cs eJ (([] : List Int) ++ s0))) = (cs eJ (([] : List Int) ++ s0)).map C.own, 0 + (0 + s0.length) * 1 ≤ (cs eJ (([] : List Int) ++ s0)).length, ((cs eJ (([] : List Int) ++ s0)).drop (0)).take ((0 + s0.length) * 1) = (cs eJ (([] : List Int) ++ s0)), ((.sl 1 (0 + s0.length) (cs eJ (([] : List Int) ++ s0))) : V) = (vS eJ (([] : List Int) ++ s0))])
      (by kernel_rfl) ⟨cs_length, rfl, all_one, own_len (e := eJ) (rfl), (chk_S h1), own_app (e := eJ) (rfl) toCell_cs, rfl, len_all (e := eJ) (app_ln (rfl) (rfl)), take_cs (e := eJ) (app_ln (rfl) (rfl)), (by rw [show 0 + s0.length = (([] : List Int) ++ s0).length from (app_ln (rfl) (rfl))]; try rfl), trivial⟩ rfl (fun _ _ h => h)
end F158
namespace F98
/-! impl.cloneState -/
def fn (fuel : Nat) (s0 : T44) : Option T44 :=
  (F158.fn fuel s0.f0).bind fun r1 =>
  (F158.fn fuel s0.f1).bind fun r3 =>
  (F158.fn fuel s0.f2).bind fun r5 =>
  some (⟨r1, r3, r5⟩ : T44)
theorem ent : enterable Try.prog 98 = true := by kernel_rfl
theorem fn_c (fuel : Nat) (s0 : T44) (r : T44) (h : fn fuel s0 = some r) : CallOK Try.prog 98 [.ro (.ag (eT44.f s0))] [] (.ag (eT44.f r)) := by
  refine contract_run Try.func98 (b := bod Try.f98) rfl ent ?_
  unfold fn at h
  obtain ⟨r1, h2, h⟩ := bind_cases h
  obtain ⟨r3, h4, h⟩ := bind_cases h
  obtain ⟨r5, h6, h⟩ := bind_cases h
  obtain rfl := Option.some.inj h
  exact runRet_S (r := ⟨Try.f98.results.toList, _, _, _, [(2, (cs eJ r1), (cs eJ r1)), (3, (cs eJ r3), (cs eJ r3)), (4, (cs eJ r5), (cs eJ r5))], 9⟩) (n := 100000) (c := (.code (bod Try.f98))) (K := [])
    (hs := [.h (.new 0), .h (.new 1), .any [[], [], [2], [], [], [3], [], [], [4], [], [1]], hA, .call ⟨[.ro], 9, [], true, [], (vS eJ r1), [], 2⟩, hA, .call ⟨[.ro], 9, [], true, [], (vS eJ r3), [], 3⟩, hA, .call ⟨[.ro], 9, [], true, [], (vS eJ r5), [], 4⟩, hA])
    (ps := [CallOK Try.prog 158 [.ro (vS eJ s0.f0)] [] (vS eJ r1), CallOK Try.prog 158 [.ro (vS eJ s0.f1)] [] (vS eJ r3), CallOK Try.prog 158 [.ro (vS eJ s0.f2)] [] (vS eJ r5), (own (cs eJ r1)) = (cs eJ r1).map C.own, 0 + r1.length * 1 ≤ (cs eJ r1).length, ((cs eJ r1).drop (0)).take (r1.length * 1) = (cs eJ r1), (own (cs eJ r3)) = (cs eJ r3).map C.own, 0 + r3.length * 1 ≤ (cs eJ r3).length, ((cs eJ r3).drop (0)).take (r3.length * 1) = (cs eJ r3), (own (cs eJ r5)) = (cs eJ r5).map C.own, 0 + r5.length * 1 ≤ (cs eJ r5).length, ((cs eJ r5).drop (0)).take (r5.length * 1) = (cs eJ r5), ((.ag [(.sl 1 r1.length (cs eJ r1)), (.sl 1 r3.length (cs eJ r3)), (.sl 1 r5.length (cs eJ r5))]) : V) = (.ag (eT44.f (⟨r1, r3, r5⟩ : T44)))])
    (by kernel_rfl) ⟨F158.fn_c fuel s0.f0 _ h2, F158.fn_c fuel s0.f1 _ h4, F158.fn_c fuel s0.f2 _ h6, rfl, len_all (e := eJ) (rfl), take_cs (e := eJ) (rfl), rfl, len_all (e := eJ) (rfl), take_cs (e := eJ) (rfl), rfl, len_all (e := eJ) (rfl), take_cs (e := eJ) (rfl), rfl, trivial⟩ rfl (fun _ _ h => h)
end F98
namespace F163
/-! impl.oneIf -/
def fn (fuel : Nat) (is0 : Bool) : Option Int :=
  cond (is0)
  (some 1)
  (some 0)
theorem ent : enterable Try.prog 163 = true := by kernel_rfl
theorem fn_c (fuel : Nat) (is0 : Bool) (r : Int) (h : fn fuel is0 = some r) : CallOK Try.prog 163 [.ro (vB is0)] [] (vI .i64 r) := by
  refine contract_run Try.func163 (b := bod Try.f163) rfl ent ?_
  unfold fn at h
  rcases cond_cases h with ⟨h1, h⟩ | ⟨h1, h⟩
  · 
    obtain rfl := Option.some.inj h
    exact runRet_S (r := ⟨Try.f163.results.toList, _, _, _, [], 9⟩) (n := 100000) (c := (.code (bod Try.f163))) (K := [])
      (hs := [.skip, .skip, .g (.env 3 (C.v (vB true)))])
      (ps := [C.v (vB is0) = C.v (vB true), (1 : Int) = 1])
      (by kernel_rfl) ⟨vbB h1, rfl, trivial⟩ rfl (fun _ _ h => h)
  · 
    obtain rfl := Option.some.inj h
    exact runRet_S (r := ⟨Try.f163.results.toList, _, _, _, [], 9⟩) (n := 100000) (c := (.code (bod Try.f163))) (K := [])
      (hs := [.skip, .skip, .g (.env 3 (C.v (vB false)))])
      (ps := [C.v (vB is0) = C.v (vB false), (0 : Int) = 0])
      (by kernel_rfl) ⟨vbB h1, rfl, trivial⟩ rfl (fun _ _ h => h)
end F163
namespace F159
/-! impl.doWord -/
def fn (fuel : Nat) (op0 : Int) (a1 : Int) (b2 : Int) : Option (Int × Bool) :=
  cond (decide (op0 = 4))
  (some (bitAnd .i64 (w64 (a1 + b2)) 65535, true))
  (cond (decide (op0 = 5))
    (some (bitAnd .i64 (w64 (a1 - b2)) 65535, true))
    (cond (decide (op0 = 6))
      (some (bitAnd .i64 (w64 (a1 * b2)) 65535, true))
      (cond (decide (op0 = 7))
        (cond (decide (b2 = 0))
          (some (0, false))
          ((chk (b2 ≠ 0)).bind fun _ =>
            some (w64 (Int.tdiv a1 b2), true)))
        (cond (decide (op0 = 8))
          ((F163.fn fuel (decide (a1 < b2))).bind fun r8 =>
            some (r8, true))
          ((F163.fn fuel (decide (a1 = b2))).bind fun r10 =>
            some (r10, true))))))
theorem ent : enterable Try.prog 159 = true := by kernel_rfl
theorem fn_c (fuel : Nat) (op0 : Int) (a1 : Int) (b2 : Int) (r : Int × Bool) (h : fn fuel op0 a1 b2 = some r) : CallOK Try.prog 159 [.ro (vI .i64 op0), .ro (vI .i64 a1), .ro (vI .i64 b2)] [] (.tp [(vI .i64 r.1), (vB r.2)]) := by
  refine contract_run Try.func159 (b := bod Try.f159) rfl ent ?_
  unfold fn at h
  rcases cond_cases h with ⟨h1, h⟩ | ⟨h1, h⟩
  · 
    obtain rfl := Option.some.inj h
    exact runRet_S (r := ⟨Try.f159.results.toList, _, _, _, [], 9⟩) (n := 100000) (c := (.code (bod Try.f159))) (K := [])
      (hs := [hA, .skip, .g (.env 9 (C.v (vB true))), hA, hA])
      (ps := [C.v (vB (decide (op0 = 4))) = C.v (vB true), (V.tp [(vI .i64 (bitAnd .i64 (w64 (a1 + b2)) 65535)), (vB true)]) = V.tp [(vI .i64 (bitAnd .i64 (w64 (a1 + b2)) 65535)), (vB true)]])
      (by kernel_rfl) ⟨vbB h1, rfl, trivial⟩ rfl (fun _ _ h => h)
  · 
    rcases cond_cases h with ⟨h2, h⟩ | ⟨h2, h⟩
    · 
      obtain rfl := Option.some.inj h
      exact runRet_S (r := ⟨Try.f159.results.toList, _, _, _, [], 9⟩) (n := 100000) (c := (.code (bod Try.f159))) (K := [])
        (hs := [hA, .skip, .g (.env 9 (C.v (vB false))), hA, .skip, .g (.env 15 (C.v (vB true))), hA, hA])
        (ps := [C.v (vB (decide (op0 = 4))) = C.v (vB false), C.v (vB (decide (op0 = 5))) = C.v (vB true), (V.tp [(vI .i64 (bitAnd .i64 (w64 (a1 - b2)) 65535)), (vB true)]) = V.tp [(vI .i64 (bitAnd .i64 (w64 (a1 - b2)) 65535)), (vB true)]])
        (by kernel_rfl) ⟨vbB h1, vbB h2, rfl, trivial⟩ rfl (fun _ _ h => h)
    · 
      rcases cond_cases h with ⟨h3, h⟩ | ⟨h3, h⟩
      · 
        obtain rfl := Option.some.inj h
        exact runRet_S (r := ⟨Try.f159.results.toList, _, _, _, [], 9⟩) (n := 100000) (c := (.code (bod Try.f159))) (K := [])
          (hs := [hA, .skip, .g (.env 9 (C.v (vB false))), hA, .skip, .g (.env 15 (C.v (vB false))), hA, .skip, .g (.env 21 (C.v (vB true))), hA, hA])
          (ps := [C.v (vB (decide (op0 = 4))) = C.v (vB false), C.v (vB (decide (op0 = 5))) = C.v (vB false), C.v (vB (decide (op0 = 6))) = C.v (vB true), (V.tp [(vI .i64 (bitAnd .i64 (w64 (a1 * b2)) 65535)), (vB true)]) = V.tp [(vI .i64 (bitAnd .i64 (w64 (a1 * b2)) 65535)), (vB true)]])
          (by kernel_rfl) ⟨vbB h1, vbB h2, vbB h3, rfl, trivial⟩ rfl (fun _ _ h => h)
      · 
        rcases cond_cases h with ⟨h4, h⟩ | ⟨h4, h⟩
        · 
          rcases cond_cases h with ⟨h5, h⟩ | ⟨h5, h⟩
          · 
            obtain rfl := Option.some.inj h
            exact runRet_S (r := ⟨Try.f159.results.toList, _, _, _, [], 9⟩) (n := 100000) (c := (.code (bod Try.f159))) (K := [])
              (hs := [hA, .skip, .g (.env 9 (C.v (vB false))), hA, .skip, .g (.env 15 (C.v (vB false))), hA, .skip, .g (.env 21 (C.v (vB false))), hA, .skip, .g (.env 27 (C.v (vB true))), hA, .g (.env 30 (C.v (vB true)))])
              (ps := [C.v (vB (decide (op0 = 4))) = C.v (vB false), C.v (vB (decide (op0 = 5))) = C.v (vB false), C.v (vB (decide (op0 = 6))) = C.v (vB false), C.v (vB (decide (op0 = 7))) = C.v (vB true), C.v (vB (decide (b2 = 0))) = C.v (vB true), (V.tp [(vI .i64 0), (vB false)]) = V.tp [(vI .i64 0), (vB false)]])
              (by kernel_rfl) ⟨vbB h1, vbB h2, vbB h3, vbB h4, vbB h5, rfl, trivial⟩ rfl (fun _ _ h => h)
          · 
            obtain ⟨_, h6, h⟩ := bind_cases h
            obtain rfl := Option.some.inj h
            exact runRet_S (r := ⟨Try.f159.results.toList, _, _, _, [], 9⟩) (n := 100000) (c := (.code (bod Try.f159))) (K := [])
              (hs := [hA, .skip, .g (.env 9 (C.v (vB false))), hA, .skip, .g (.env 15 (C.v (vB false))), hA, .skip, .g (.env 21 (C.v (vB false))), hA, .skip, .g (.env 27 (C.v (vB true))), hA, .g (.env 30 (C.v (vB false))), .h .dv])
              (ps := [C.v (vB (decide (op0 = 4))) = C.v (vB false), C.v (vB (decide (op0 = 5))) = C.v (vB false), C.v (vB (decide (op0 = 6))) = C.v (vB false), C.v (vB (decide (op0 = 7))) = C.v (vB true), C.v (vB (decide (b2 = 0))) = C.v (vB false), b2 ≠ 0, (V.tp [(vI .i64 (w64 (Int.tdiv a1 b2))), (vB true)]) = V.tp [(vI .i64 (w64 (Int.tdiv a1 b2))), (vB true)]])
              (by kernel_rfl) ⟨vbB h1, vbB h2, vbB h3, vbB h4, vbB h5, (chk_S h6), rfl, trivial⟩ rfl (fun _ _ h => h)
        · 
          rcases cond_cases h with ⟨h7, h⟩ | ⟨h7, h⟩
          · 
            obtain ⟨r8, h9, h⟩ := bind_cases h
            obtain rfl := Option.some.inj h
            exact runRet_S (r := ⟨Try.f159.results.toList, _, _, _, [], 9⟩) (n := 100000) (c := (.code (bod Try.f159))) (K := [])
              (hs := [hA, .skip, .g (.env 9 (C.v (vB false))), hA, .skip, .g (.env 15 (C.v (vB false))), hA, .skip, .g (.env 21 (C.v (vB false))), hA, .skip, .g (.env 27 (C.v (vB false))), hA, .skip, .g (.env 34 (C.v (vB true))), hA, .call ⟨[.ro], 9, [], true, [], (vI .i64 r8), [], 0⟩])
              (ps := [C.v (vB (decide (op0 = 4))) = C.v (vB false), C.v (vB (decide (op0 = 5))) = C.v (vB false), C.v (vB (decide (op0 = 6))) = C.v (vB false), C.v (vB (decide (op0 = 7))) = C.v (vB false), C.v (vB (decide (op0 = 8))) = C.v (vB true), CallOK Try.prog 163 [.ro (vB (decide (a1 < b2)))] [] (vI .i64 r8), (V.tp [(vI .i64 r8), (vB true)]) = V.tp [(vI .i64 r8), (vB true)]])
              (by kernel_rfl) ⟨vbB h1, vbB h2, vbB h3, vbB h4, vbB h7, F163.fn_c fuel (decide (a1 < b2)) _ h9, rfl, trivial⟩ rfl (fun _ _ h => h)
          · 
            obtain ⟨r10, h11, h⟩ := bind_cases h
            obtain rfl := Option.some.inj h
            exact runRet_S (r := ⟨Try.f159.results.toList, _, _, _, [], 9⟩) (n := 100000) (c := (.code (bod Try.f159))) (K := [])
              (hs := [hA, .skip, .g (.env 9 (C.v (vB false))), hA, .skip, .g (.env 15 (C.v (vB false))), hA, .skip, .g (.env 21 (C.v (vB false))), hA, .skip, .g (.env 27 (C.v (vB false))), hA, .skip, .g (.env 34 (C.v (vB false))), hA, .call ⟨[.ro], 9, [], true, [], (vI .i64 r10), [], 0⟩])
              (ps := [C.v (vB (decide (op0 = 4))) = C.v (vB false), C.v (vB (decide (op0 = 5))) = C.v (vB false), C.v (vB (decide (op0 = 6))) = C.v (vB false), C.v (vB (decide (op0 = 7))) = C.v (vB false), C.v (vB (decide (op0 = 8))) = C.v (vB false), CallOK Try.prog 163 [.ro (vB (decide (a1 = b2)))] [] (vI .i64 r10), (V.tp [(vI .i64 r10), (vB true)]) = V.tp [(vI .i64 r10), (vB true)]])
              (by kernel_rfl) ⟨vbB h1, vbB h2, vbB h3, vbB h4, vbB h7, F163.fn_c fuel (decide (a1 = b2)) _ h11, rfl, trivial⟩ rfl (fun _ _ h => h)
end F159
namespace F160
/-! (*impl.State).load -/
def fn (fuel : Nat) (s0 : T44) (at1 : Int) : Option (Int × Bool) :=
  cond (decide (at1 ≥ 16))
  (some (0, false))
  ((idx at1 s0.f1.length).bind fun j2 =>
    some ((s0.f1.getD j2 (0 : Int)), true))
theorem ent : enterable Try.prog 160 = true := by kernel_rfl
theorem fn_c (fuel : Nat) (s0 : T44) (at1 : Int) (r : Int × Bool) (h : fn fuel s0 at1 = some r) : CallOK Try.prog 160 [.ro (.bx (eT44.f s0)), .ro (vI .i64 at1)] [] (.tp [(vI .i64 r.1), (vB r.2)]) := by
  refine contract_run Try.func160 (b := bod Try.f160) rfl ent ?_
  unfold fn at h
  rcases cond_cases h with ⟨h1, h⟩ | ⟨h1, h⟩
  · 
    obtain rfl := Option.some.inj h
    exact runRet_S (r := ⟨Try.f160.results.toList, _, _, _, [], 9⟩) (n := 100000) (c := (.code (bod Try.f160))) (K := [])
      (hs := [hA, .g (.env 7 (C.v (vB true)))])
      (ps := [C.v (vB (decide (at1 ≥ 16))) = C.v (vB true), (V.tp [(vI .i64 0), (vB false)]) = V.tp [(vI .i64 0), (vB false)]])
      (by kernel_rfl) ⟨vbB h1, rfl, trivial⟩ rfl (fun _ _ h => h)
  · 
    obtain ⟨j2, h3, h⟩ := bind_cases h
    obtain rfl := Option.some.inj h
    exact runRet_S (r := ⟨Try.f160.results.toList, _, _, _, [], 9⟩) (n := 100000) (c := (.code (bod Try.f160))) (K := [])
      (hs := [hA, .g (.env 7 (C.v (vB false))), hA, .h (.idv j2 (eJ.f (s0.f1.getD j2 (0 : Int)) ++ (cs eJ (s0.f1.drop (j2 + 1))))), hA])
      (ps := [C.v (vB (decide (at1 ≥ 16))) = C.v (vB false), at1 = (j2 : Int), j2 < s0.f1.length, (cs eJ s0.f1).drop (j2 * 1) = (eJ.f (s0.f1.getD j2 (0 : Int)) ++ (cs eJ (s0.f1.drop (j2 + 1)))), cs eJ s0.f1 ≠ [], (V.tp [(vI .i64 (s0.f1.getD j2 (0 : Int))), (vB true)]) = V.tp [(vI .i64 (s0.f1.getD j2 (0 : Int))), (vB true)]])
      (by kernel_rfl) ⟨vbB h1, (idx_S h3).1, (idx_S h3).2, cs_from (e := eJ) (d := (0 : Int)) (idx_S h3).2, cs_ne (e := eJ) (idx_S h3).2 (by decide), rfl, trivial⟩ rfl (fun _ _ h => h)
end F160
namespace F161
/-! (*impl.State).store -/
def fn (fuel : Nat) (s0 : T44) (at1 : Int) (n2 : Int) : Option (Bool × T44) :=
  cond (decide (at1 ≥ 16))
  (some (false, s0))
  ((idx at1 s0.f1.length).bind fun j2 =>
    some (true, (⟨s0.f0, s0.f1.set j2 n2, s0.f2⟩ : T44)))
theorem ent : enterable Try.prog 161 = true := by kernel_rfl
theorem fn_c (fuel : Nat) (s0 : T44) (at1 : Int) (n2 : Int) (r : Bool × T44) (h : fn fuel s0 at1 n2 = some r) : CallOK Try.prog 161 [.io (.bx (eT44.f s0)), .ro (vI .i64 at1), .ro (vI .i64 n2)] [(.bx (eT44.f r.2))] (vB r.1) := by
  refine contract_run Try.func161 (b := bod Try.f161) rfl ent ?_
  unfold fn at h
  rcases cond_cases h with ⟨h1, h⟩ | ⟨h1, h⟩
  · 
    obtain rfl := Option.some.inj h
    exact runRet_S (r := ⟨Try.f161.results.toList, _, _, _, [(1, (cs eJ s0.f0), (cs eJ s0.f0)), (2, (cs eJ s0.f1), (cs eJ s0.f1)), (3, (cs eJ s0.f2), (cs eJ s0.f2))], 9⟩) (n := 100000) (c := (.code (bod Try.f161))) (K := [])
      (hs := [.g (.opn 0 0 1), .g (.opn 0 1 2), .g (.opn 0 2 3), hA, .g (.env 8 (C.v (vB true)))])
      (ps := [C.v (vB (decide (at1 ≥ 16))) = C.v (vB true), (own (cs eJ s0.f0)) = (cs eJ s0.f0).map C.own, 0 + s0.f0.length * 1 ≤ (cs eJ s0.f0).length, ((cs eJ s0.f0).drop (0)).take (s0.f0.length * 1) = (cs eJ s0.f0), (own (cs eJ s0.f1)) = (cs eJ s0.f1).map C.own, 0 + s0.f1.length * 1 ≤ (cs eJ s0.f1).length, ((cs eJ s0.f1).drop (0)).take (s0.f1.length * 1) = (cs eJ s0.f1), (own (cs eJ s0.f2)) = (cs eJ s0.f2).map C.own, 0 + s0.f2.length * 1 ≤ (cs eJ s0.f2).length, ((cs eJ s0.f2).drop (0)).take (s0.f2.length * 1) = (cs eJ s0.f2), ((.bx [(.sl 1 s0.f0.length (cs eJ s0.f0)), (.sl 1 s0.f1.length (cs eJ s0.f1)), (.sl 1 s0.f2.length (cs eJ s0.f2))]) : V) = (.bx (eT44.f s0)), (false : Bool) = false])
      (by kernel_rfl) ⟨vbB h1, rfl, len_all (e := eJ) (rfl), take_cs (e := eJ) (rfl), rfl, len_all (e := eJ) (rfl), take_cs (e := eJ) (rfl), rfl, len_all (e := eJ) (rfl), take_cs (e := eJ) (rfl), rfl, rfl, trivial⟩ rfl (fun _ _ h => h)
  · 
    obtain ⟨j2, h3, h⟩ := bind_cases h
    obtain rfl := Option.some.inj h
    exact runRet_S (r := ⟨Try.f161.results.toList, _, _, _, [(1, (cs eJ s0.f0), (cs eJ s0.f0)), (2, (cs eJ (s0.f1.set j2 n2)), (cs eJ (s0.f1.set j2 n2))), (3, (cs eJ s0.f2), (cs eJ s0.f2))], 9⟩) (n := 100000) (c := (.code (bod Try.f161))) (K := [])
      (hs := [.g (.opn 0 0 1), .g (.opn 0 1 2), .g (.opn 0 2 3), hA, .g (.env 8 (C.v (vB false))), hA, .h (.idx j2 false), .h (.cells (own (cs eJ (s0.f1.set j2 n2))))])
      (ps := [C.v (vB (decide (at1 ≥ 16))) = C.v (vB false), at1 = (j2 : Int), j2 < s0.f1.length, 0 + j2 * 1 + 1 ≤ (own (cs eJ s0.f1)).length, setRange (own (cs eJ s0.f1)) (0 + j2 * 1) [C.own (vI .i64 n2)] = (own (cs eJ (s0.f1.set j2 n2))), (own (cs eJ s0.f0)) = (cs eJ s0.f0).map C.own, 0 + s0.f0.length * 1 ≤ (cs eJ s0.f0).length, ((cs eJ s0.f0).drop (0)).take (s0.f0.length * 1) = (cs eJ s0.f0), (own (cs eJ (s0.f1.set j2 n2))) = (cs eJ (s0.f1.set j2 n2)).map C.own, 0 + s0.f1.length * 1 ≤ (cs eJ (s0.f1.set j2 n2)).length, ((cs eJ (s0.f1.set j2 n2)).drop (0)).take (s0.f1.length * 1) = (cs eJ (s0.f1.set j2 n2)), (own (cs eJ s0.f2)) = (cs eJ s0.f2).map C.own, 0 + s0.f2.length * 1 ≤ (cs eJ s0.f2).length, ((cs eJ s0.f2).drop (0)).take (s0.f2.length * 1) = (cs eJ s0.f2), ((.bx [(.sl 1 s0.f0.length (cs eJ s0.f0)), (.sl 1 s0.f1.length (cs eJ (s0.f1.set j2 n2))), (.sl 1 s0.f2.length (cs eJ s0.f2))]) : V) = (.bx (eT44.f (⟨s0.f0, s0.f1.set j2 n2, s0.f2⟩ : T44))), (true : Bool) = true])
      (by kernel_rfl) ⟨vbB h1, (idx_S h3).1, (idx_S h3).2, own_room (e := eJ) (idx_S h3).2, own_set (e := eJ) (idx_S h3).2 rfl, rfl, len_all (e := eJ) (rfl), take_cs (e := eJ) (rfl), rfl, len_all (e := eJ) (set_ln), take_cs (e := eJ) (set_ln), rfl, len_all (e := eJ) (rfl), take_cs (e := eJ) (rfl), (by rw [show s0.f1.length = (s0.f1.set j2 n2).length from (set_ln)]; try rfl), rfl, trivial⟩ rfl (fun _ _ h => h)
end F161
namespace F162
/-! (*impl.State).tell -/
def fn (fuel : Nat) (s0 : T44) (n1 : Int) : Option (Bool × T44) :=
  cond (decide ((s0.f2.length : Int) = 100))
  (some (false, s0))
  ((chk ((s0.f2.length + 1) * 8 ≤ 140737488355328)).bind fun _ =>
    some (true, (⟨s0.f0, s0.f1, s0.f2 ++ ([n1] : List Int)⟩ : T44)))
theorem ent : enterable Try.prog 162 = true := by kernel_rfl
theorem fn_c (fuel : Nat) (s0 : T44) (n1 : Int) (r : Bool × T44) (h : fn fuel s0 n1 = some r) : CallOK Try.prog 162 [.io (.bx (eT44.f s0)), .ro (vI .i64 n1)] [(.bx (eT44.f r.2))] (vB r.1) := by
  refine contract_run Try.func162 (b := bod Try.f162) rfl ent ?_
  unfold fn at h
  rcases cond_cases h with ⟨h1, h⟩ | ⟨h1, h⟩
  · 
    obtain rfl := Option.some.inj h
    exact runRet_S (r := ⟨Try.f162.results.toList, _, _, _, [(1, (cs eJ s0.f0), (cs eJ s0.f0)), (2, (cs eJ s0.f1), (cs eJ s0.f1)), (3, (cs eJ s0.f2), (cs eJ s0.f2))], 9⟩) (n := 100000) (c := (.code (bod Try.f162))) (K := [])
      (hs := [.g (.opn 0 0 1), .g (.opn 0 1 2), .g (.opn 0 2 3), hA, hA, hA, .g (.env 10 (C.v (vB true)))])
      (ps := [C.v (vB (decide ((s0.f2.length : Int) = 100))) = C.v (vB true), (own (cs eJ s0.f0)) = (cs eJ s0.f0).map C.own, 0 + s0.f0.length * 1 ≤ (cs eJ s0.f0).length, ((cs eJ s0.f0).drop (0)).take (s0.f0.length * 1) = (cs eJ s0.f0), (own (cs eJ s0.f1)) = (cs eJ s0.f1).map C.own, 0 + s0.f1.length * 1 ≤ (cs eJ s0.f1).length, ((cs eJ s0.f1).drop (0)).take (s0.f1.length * 1) = (cs eJ s0.f1), (own (cs eJ s0.f2)) = (cs eJ s0.f2).map C.own, 0 + s0.f2.length * 1 ≤ (cs eJ s0.f2).length, ((cs eJ s0.f2).drop (0)).take (s0.f2.length * 1) = (cs eJ s0.f2), ((.bx [(.sl 1 s0.f0.length (cs eJ s0.f0)), (.sl 1 s0.f1.length (cs eJ s0.f1)), (.sl 1 s0.f2.length (cs eJ s0.f2))]) : V) = (.bx (eT44.f s0)), (false : Bool) = false])
      (by kernel_rfl) ⟨vbB h1, rfl, len_all (e := eJ) (rfl), take_cs (e := eJ) (rfl), rfl, len_all (e := eJ) (rfl), take_cs (e := eJ) (rfl), rfl, len_all (e := eJ) (rfl), take_cs (e := eJ) (rfl), rfl, rfl, trivial⟩ rfl (fun _ _ h => h)
  · 
    obtain ⟨_, h2, h⟩ := bind_cases h
    obtain rfl := Option.some.inj h
    exact runRet_S (r := ⟨Try.f162.results.toList, _, _, _, [(1, (cs eJ s0.f0), (cs eJ s0.f0)), (2, (cs eJ s0.f1), (cs eJ s0.f1)), (5, (cs eJ (s0.f2 ++ ([n1] : List Int))), (cs eJ (s0.f2 ++ ([n1] : List Int))))], 9⟩) (n := 100000) (c := (.code (bod Try.f162))) (K := [])
      (hs := [.g (.opn 0 0 1), .g (.opn 0 1 2), .g (.opn 0 2 3), hA, hA, hA, .g (.env 10 (C.v (vB false))), hA, .h (.new 4), .h (.app 5 (own (cs eJ (s0.f2 ++ ([n1] : List Int))))), hA])
      (ps := [C.v (vB (decide ((s0.f2.length : Int) = 100))) = C.v (vB false), 0 + s0.f2.length * 1 ≤ (own (cs eJ s0.f2)).length, (s0.f2.length + 1) * 8 ≤ 140737488355328, ((own (cs eJ s0.f2)).drop 0).take (s0.f2.length * 1) ++ [C.own (vI .i64 n1)] = (own (cs eJ (s0.f2 ++ ([n1] : List Int)))), (own (cs eJ s0.f0)) = (cs eJ s0.f0).map C.own, 0 + s0.f0.length * 1 ≤ (cs eJ s0.f0).length, ((cs eJ s0.f0).drop (0)).take (s0.f0.length * 1) = (cs eJ s0.f0), (own (cs eJ s0.f1)) = (cs eJ s0.f1).map C.own, 0 + s0.f1.length * 1 ≤ (cs eJ s0.f1).length, ((cs eJ s0.f1).drop (0)).take (s0.f1.length * 1) = (cs eJ s0.f1), (own (cs eJ (s0.f2 ++ ([n1] : List Int)))) = (cs eJ (s0.f2 ++ ([n1] : List Int))).map C.own, 0 + (s0.f2.length + 1) * 1 ≤ (cs eJ (s0.f2 ++ ([n1] : List Int))).length, ((cs eJ (s0.f2 ++ ([n1] : List Int))).drop (0)).take ((s0.f2.length + 1) * 1) = (cs eJ (s0.f2 ++ ([n1] : List Int))), ((.bx [(.sl 1 s0.f0.length (cs eJ s0.f0)), (.sl 1 s0.f1.length (cs eJ s0.f1)), (.sl 1 (s0.f2.length + 1) (cs eJ (s0.f2 ++ ([n1] : List Int))))]) : V) = (.bx (eT44.f (⟨s0.f0, s0.f1, s0.f2 ++ ([n1] : List Int)⟩ : T44))), (true : Bool) = true])
      (by kernel_rfl) ⟨vbB h1, own_len (e := eJ) (rfl), (chk_S h2), own_app (e := eJ) (rfl) rfl, rfl, len_all (e := eJ) (rfl), take_cs (e := eJ) (rfl), rfl, len_all (e := eJ) (rfl), take_cs (e := eJ) (rfl), rfl, len_all (e := eJ) (app_ln (rfl) (rfl)), take_cs (e := eJ) (app_ln (rfl) (rfl)), (by rw [show s0.f2.length + 1 = (s0.f2 ++ ([n1] : List Int)).length from (app_ln (rfl) (rfl))]; try rfl), rfl, trivial⟩ rfl (fun _ _ h => h)
end F162
namespace F99
/-! (*impl.State).doFlat -/
def fn (fuel : Nat) (s0 : T44) (x1 : T131) (names2 : List Int) : Option (Bool × T44 × (List Int)) :=
  cond (decide (x1.f0 = 1))
  ((idx x1.f2 names2.length).bind fun j2 =>
    some (true, s0, names2.set j2 x1.f5))
  (cond (decide (x1.f0 = 2))
    ((idx x1.f3 names2.length).bind fun j5 =>
      (idx x1.f2 names2.length).bind fun j7 =>
      some (true, s0, names2.set j7 (names2.getD j5 (0 : Int))))
    (cond (decide (x1.f0 = 3))
      ((idx x1.f3 names2.length).bind fun j10 =>
        (idx x1.f4 names2.length).bind fun j12 =>
        (F159.fn fuel x1.f1 (names2.getD j10 (0 : Int)) (names2.getD j12 (0 : Int))).bind fun r14 =>
        cond (r14.2)
        ((idx x1.f2 names2.length).bind fun j17 =>
          some (r14.2, s0, names2.set j17 r14.1))
        (some (r14.2, s0, names2)))
      (cond (decide (x1.f0 = 4))
        ((idx x1.f3 names2.length).bind fun j20 =>
          (F160.fn fuel s0 (names2.getD j20 (0 : Int))).bind fun r22 =>
          cond (r22.2)
          ((idx x1.f2 names2.length).bind fun j25 =>
            some (r22.2, s0, names2.set j25 r22.1))
          (some (r22.2, s0, names2)))
        (cond (decide (x1.f0 = 5))
          ((idx x1.f3 names2.length).bind fun j28 =>
            (idx x1.f4 names2.length).bind fun j30 =>
            (F161.fn fuel s0 (names2.getD j28 (0 : Int)) (names2.getD j30 (0 : Int))).bind fun r32 =>
            some (r32.1, r32.2, names2))
          ((idx x1.f3 names2.length).bind fun j34 =>
            (F162.fn fuel s0 (names2.getD j34 (0 : Int))).bind fun r36 =>
            some (r36.1, r36.2, names2))))))
theorem ent : enterable Try.prog 99 = true := by kernel_rfl
theorem fn_c (fuel : Nat) (s0 : T44) (x1 : T131) (names2 : List Int) (r : Bool × T44 × (List Int)) (h : fn fuel s0 x1 names2 = some r) : CallOK Try.prog 99 [.io (.bx (eT44.f s0)), .ro (.ag (eT131.f x1)), .io (vS eJ names2)] [(.bx (eT44.f r.2.1)), (vS eJ r.2.2)] (vB r.1) := by
  refine contract_run Try.func99 (b := bod Try.f99) rfl ent ?_
  unfold fn at h
  rcases cond_cases h with ⟨h1, h⟩ | ⟨h1, h⟩
  · 
    obtain ⟨j2, h3, h⟩ := bind_cases h
    obtain rfl := Option.some.inj h
    exact runRet_S (r := ⟨Try.f99.results.toList, _, _, _, [(2, (cs eJ s0.f0), (cs eJ s0.f0)), (3, (cs eJ s0.f1), (cs eJ s0.f1)), (4, (cs eJ s0.f2), (cs eJ s0.f2)), (1, (cs eJ (names2.set j2 x1.f5)), (cs eJ (names2.set j2 x1.f5)))], 9⟩) (n := 100000) (c := (.code (bod Try.f99))) (K := [])
      (hs := [.g (.opn 0 0 2), .g (.opn 0 1 3), .g (.opn 0 2 4), .h (.new 5), hA, hA, .skip, .g (.env 21 (C.v (vB true))), hA, hA, .h (.idx j2 false), .h (.cells (own (cs eJ (names2.set j2 x1.f5))))])
      (ps := [C.v (vB (decide (x1.f0 = 1))) = C.v (vB true), x1.f2 = (j2 : Int), j2 < names2.length, 0 + j2 * 1 + 1 ≤ (own (cs eJ names2)).length, setRange (own (cs eJ names2)) (0 + j2 * 1) [C.own (vI .i64 x1.f5)] = (own (cs eJ (names2.set j2 x1.f5))), (own (cs eJ s0.f0)) = (cs eJ s0.f0).map C.own, 0 + s0.f0.length * 1 ≤ (cs eJ s0.f0).length, ((cs eJ s0.f0).drop (0)).take (s0.f0.length * 1) = (cs eJ s0.f0), (own (cs eJ s0.f1)) = (cs eJ s0.f1).map C.own, 0 + s0.f1.length * 1 ≤ (cs eJ s0.f1).length, ((cs eJ s0.f1).drop (0)).take (s0.f1.length * 1) = (cs eJ s0.f1), (own (cs eJ s0.f2)) = (cs eJ s0.f2).map C.own, 0 + s0.f2.length * 1 ≤ (cs eJ s0.f2).length, ((cs eJ s0.f2).drop (0)).take (s0.f2.length * 1) = (cs eJ s0.f2), (own (cs eJ (names2.set j2 x1.f5))) = (cs eJ (names2.set j2 x1.f5)).map C.own, 0 + names2.length * 1 ≤ (cs eJ (names2.set j2 x1.f5)).length, ((cs eJ (names2.set j2 x1.f5)).drop (0)).take (names2.length * 1) = (cs eJ (names2.set j2 x1.f5)), ((.bx [(.sl 1 s0.f0.length (cs eJ s0.f0)), (.sl 1 s0.f1.length (cs eJ s0.f1)), (.sl 1 s0.f2.length (cs eJ s0.f2))]) : V) = (.bx (eT44.f s0)), ((.sl 1 names2.length (cs eJ (names2.set j2 x1.f5))) : V) = (vS eJ (names2.set j2 x1.f5)), (true : Bool) = true])
      (by kernel_rfl) ⟨vbB h1, (idx_S h3).1, (idx_S h3).2, own_room (e := eJ) (idx_S h3).2, own_set (e := eJ) (idx_S h3).2 rfl, rfl, len_all (e := eJ) (rfl), take_cs (e := eJ) (rfl), rfl, len_all (e := eJ) (rfl), take_cs (e := eJ) (rfl), rfl, len_all (e := eJ) (rfl), take_cs (e := eJ) (rfl), rfl, len_all (e := eJ) (set_ln), take_cs (e := eJ) (set_ln), rfl, (by rw [show names2.length = (names2.set j2 x1.f5).length from (set_ln)]; try rfl), rfl, trivial⟩ rfl (fun _ _ h => h)
  · 
    rcases cond_cases h with ⟨h4, h⟩ | ⟨h4, h⟩
    · 
      obtain ⟨j5, h6, h⟩ := bind_cases h
      obtain ⟨j7, h8, h⟩ := bind_cases h
      obtain rfl := Option.some.inj h
      exact runRet_S (r := ⟨Try.f99.results.toList, _, _, _, [(2, (cs eJ s0.f0), (cs eJ s0.f0)), (3, (cs eJ s0.f1), (cs eJ s0.f1)), (4, (cs eJ s0.f2), (cs eJ s0.f2)), (1, (cs eJ (names2.set j7 (names2.getD j5 (0 : Int)))), (cs eJ (names2.set j7 (names2.getD j5 (0 : Int)))))], 9⟩) (n := 100000) (c := (.code (bod Try.f99))) (K := [])
        (hs := [.g (.opn 0 0 2), .g (.opn 0 1 3), .g (.opn 0 2 4), .h (.new 5), hA, hA, .skip, .g (.env 21 (C.v (vB false))), hA, .skip, .g (.env 29 (C.v (vB true))), .any [[], [], [], [], [], [], [], [], [], [1]], hA, hA, .h (.idx j5 false), .h (.cell (C.v (vI .i64 (names2.getD j5 (0 : Int))))), .h (.idx j7 false), .h (.cells (own (cs eJ (names2.set j7 (names2.getD j5 (0 : Int))))))])
        (ps := [C.v (vB (decide (x1.f0 = 1))) = C.v (vB false), C.v (vB (decide (x1.f0 = 2))) = C.v (vB true), x1.f3 = (j5 : Int), j5 < names2.length, ((own (cs eJ names2))[0 + j5 * 1]?).bind readC = some (C.v (vI .i64 (names2.getD j5 (0 : Int)))), x1.f2 = (j7 : Int), j7 < names2.length, 0 + j7 * 1 + 1 ≤ (own (cs eJ names2)).length, setRange (own (cs eJ names2)) (0 + j7 * 1) [C.own (vI .i64 (names2.getD j5 (0 : Int)))] = (own (cs eJ (names2.set j7 (names2.getD j5 (0 : Int))))), (own (cs eJ s0.f0)) = (cs eJ s0.f0).map C.own, 0 + s0.f0.length * 1 ≤ (cs eJ s0.f0).length, ((cs eJ s0.f0).drop (0)).take (s0.f0.length * 1) = (cs eJ s0.f0), (own (cs eJ s0.f1)) = (cs eJ s0.f1).map C.own, 0 + s0.f1.length * 1 ≤ (cs eJ s0.f1).length, ((cs eJ s0.f1).drop (0)).take (s0.f1.length * 1) = (cs eJ s0.f1), (own (cs eJ s0.f2)) = (cs eJ s0.f2).map C.own, 0 + s0.f2.length * 1 ≤ (cs eJ s0.f2).length, ((cs eJ s0.f2).drop (0)).take (s0.f2.length * 1) = (cs eJ s0.f2), (own (cs eJ (names2.set j7 (names2.getD j5 (0 : Int))))) = (cs eJ (names2.set j7 (names2.getD j5 (0 : Int)))).map C.own, 0 + names2.length * 1 ≤ (cs eJ (names2.set j7 (names2.getD j5 (0 : Int)))).length, ((cs eJ (names2.set j7 (names2.getD j5 (0 : Int)))).drop (0)).take (names2.length * 1) = (cs eJ (names2.set j7 (names2.getD j5 (0 : Int)))), ((.bx [(.sl 1 s0.f0.length (cs eJ s0.f0)), (.sl 1 s0.f1.length (cs eJ s0.f1)), (.sl 1 s0.f2.length (cs eJ s0.f2))]) : V) = (.bx (eT44.f s0)), ((.sl 1 names2.length (cs eJ (names2.set j7 (names2.getD j5 (0 : Int))))) : V) = (vS eJ (names2.set j7 (names2.getD j5 (0 : Int)))), (true : Bool) = true])
        (by kernel_rfl) ⟨vbB h1, vbB h4, (idx_S h6).1, (idx_S h6).2, readC_at (e := eJ) (k := 0) (d := (0 : Int)) (idx_S h6).2 (by decide) rfl, (idx_S h8).1, (idx_S h8).2, own_room (e := eJ) (idx_S h8).2, own_set (e := eJ) (idx_S h8).2 rfl, rfl, len_all (e := eJ) (rfl), take_cs (e := eJ) (rfl), rfl, len_all (e := eJ) (rfl), take_cs (e := eJ) (rfl), rfl, len_all (e := eJ) (rfl), take_cs (e := eJ) (rfl), rfl, len_all (e := eJ) (set_ln), take_cs (e := eJ) (set_ln), rfl, (by rw [show names2.length = (names2.set j7 (names2.getD j5 (0 : Int))).length from (set_ln)]; try rfl), rfl, trivial⟩ rfl (fun _ _ h => h)
    · 
      rcases cond_cases h with ⟨h9, h⟩ | ⟨h9, h⟩
      · 
        obtain ⟨j10, h11, h⟩ := bind_cases h
        obtain ⟨j12, h13, h⟩ := bind_cases h
        obtain ⟨r14, h15, h⟩ := bind_cases h
        rcases cond_cases h with ⟨h16, h⟩ | ⟨h16, h⟩
        · 
          obtain ⟨j17, h18, h⟩ := bind_cases h
          obtain rfl := Option.some.inj h
          exact runRet_S (r := ⟨Try.f99.results.toList, _, _, _, [(2, (cs eJ s0.f0), (cs eJ s0.f0)), (3, (cs eJ s0.f1), (cs eJ s0.f1)), (4, (cs eJ s0.f2), (cs eJ s0.f2)), (1, (cs eJ (names2.set j17 r14.1)), (cs eJ (names2.set j17 r14.1)))], 9⟩) (n := 100000) (c := (.code (bod Try.f99))) (K := [])
            (hs := [.g (.opn 0 0 2), .g (.opn 0 1 3), .g (.opn 0 2 4), .h (.new 5), hA, hA, .skip, .g (.env 21 (C.v (vB false))), hA, .skip, .g (.env 29 (C.v (vB false))), hA, .skip, .g (.env 40 (C.v (vB true))), .any [[], [], [], [], [], [], [], [], [], [], [], [], [], [], [], [], [], []], hA, hA, .h (.idx j10 false), .h (.cell (C.v (vI .i64 (names2.getD j10 (0 : Int))))), hA, .h (.idx j12 false), .h (.cell (C.v (vI .i64 (names2.getD j12 (0 : Int))))), .call ⟨[.ro, .ro, .ro], 9, [], true, [], (.tp [(vI .i64 r14.1), (vB r14.2)]), [], 6⟩, .skip, .g (.env 58 (C.v (vB true))), hA, .h (.idx j17 false), .h (.cells (own (cs eJ (names2.set j17 r14.1))))])
            (ps := [C.v (vB (decide (x1.f0 = 1))) = C.v (vB false), C.v (vB (decide (x1.f0 = 2))) = C.v (vB false), C.v (vB (decide (x1.f0 = 3))) = C.v (vB true), x1.f3 = (j10 : Int), j10 < names2.length, ((own (cs eJ names2))[0 + j10 * 1]?).bind readC = some (C.v (vI .i64 (names2.getD j10 (0 : Int)))), x1.f4 = (j12 : Int), j12 < names2.length, ((own (cs eJ names2))[0 + j12 * 1]?).bind readC = some (C.v (vI .i64 (names2.getD j12 (0 : Int)))), CallOK Try.prog 159 [.ro (vI .i64 x1.f1), .ro (vI .i64 (names2.getD j10 (0 : Int))), .ro (vI .i64 (names2.getD j12 (0 : Int)))] [] (.tp [(vI .i64 r14.1), (vB r14.2)]), C.v (vB r14.2) = C.v (vB true), x1.f2 = (j17 : Int), j17 < names2.length, 0 + j17 * 1 + 1 ≤ (own (cs eJ names2)).length, setRange (own (cs eJ names2)) (0 + j17 * 1) [C.own (vI .i64 r14.1)] = (own (cs eJ (names2.set j17 r14.1))), (own (cs eJ s0.f0)) = (cs eJ s0.f0).map C.own, 0 + s0.f0.length * 1 ≤ (cs eJ s0.f0).length, ((cs eJ s0.f0).drop (0)).take (s0.f0.length * 1) = (cs eJ s0.f0), (own (cs eJ s0.f1)) = (cs eJ s0.f1).map C.own, 0 + s0.f1.length * 1 ≤ (cs eJ s0.f1).length, ((cs eJ s0.f1).drop (0)).take (s0.f1.length * 1) = (cs eJ s0.f1), (own (cs eJ s0.f2)) = (cs eJ s0.f2).map C.own, 0 + s0.f2.length * 1 ≤ (cs eJ s0.f2).length, ((cs eJ s0.f2).drop (0)).take (s0.f2.length * 1) = (cs eJ s0.f2), (own (cs eJ (names2.set j17 r14.1))) = (cs eJ (names2.set j17 r14.1)).map C.own, 0 + names2.length * 1 ≤ (cs eJ (names2.set j17 r14.1)).length, ((cs eJ (names2.set j17 r14.1)).drop (0)).take (names2.length * 1) = (cs eJ (names2.set j17 r14.1)), ((.bx [(.sl 1 s0.f0.length (cs eJ s0.f0)), (.sl 1 s0.f1.length (cs eJ s0.f1)), (.sl 1 s0.f2.length (cs eJ s0.f2))]) : V) = (.bx (eT44.f s0)), ((.sl 1 names2.length (cs eJ (names2.set j17 r14.1))) : V) = (vS eJ (names2.set j17 r14.1)), (r14.2 : Bool) = r14.2])
            (by kernel_rfl) ⟨vbB h1, vbB h4, vbB h9, (idx_S h11).1, (idx_S h11).2, readC_at (e := eJ) (k := 0) (d := (0 : Int)) (idx_S h11).2 (by decide) rfl, (idx_S h13).1, (idx_S h13).2, readC_at (e := eJ) (k := 0) (d := (0 : Int)) (idx_S h13).2 (by decide) rfl, F159.fn_c fuel x1.f1 (names2.getD j10 (0 : Int)) (names2.getD j12 (0 : Int)) _ h15, vbB h16, (idx_S h18).1, (idx_S h18).2, own_room (e := eJ) (idx_S h18).2, own_set (e := eJ) (idx_S h18).2 rfl, rfl, len_all (e := eJ) (rfl), take_cs (e := eJ) (rfl), rfl, len_all (e := eJ) (rfl), take_cs (e := eJ) (rfl), rfl, len_all (e := eJ) (rfl), take_cs (e := eJ) (rfl), rfl, len_all (e := eJ) (set_ln), take_cs (e := eJ) (set_ln), rfl, (by rw [show names2.length = (names2.set j17 r14.1).length from (set_ln)]; try rfl), rfl, trivial⟩ rfl (fun _ _ h => h)
        · 
          obtain rfl := Option.some.inj h
          exact runRet_S (r := ⟨Try.f99.results.toList, _, _, _, [(2, (cs eJ s0.f0), (cs eJ s0.f0)), (3, (cs eJ s0.f1), (cs eJ s0.f1)), (4, (cs eJ s0.f2), (cs eJ s0.f2)), (1, (cs eJ names2), (cs eJ names2))], 9⟩) (n := 100000) (c := (.code (bod Try.f99))) (K := [])
            (hs := [.g (.opn 0 0 2), .g (.opn 0 1 3), .g (.opn 0 2 4), .h (.new 5), hA, hA, .skip, .g (.env 21 (C.v (vB false))), hA, .skip, .g (.env 29 (C.v (vB false))), hA, .skip, .g (.env 40 (C.v (vB true))), .any [[], [], [], [], [], [], [], [], [], [], [], [], [], [], [], [], [], []], hA, hA, .h (.idx j10 false), .h (.cell (C.v (vI .i64 (names2.getD j10 (0 : Int))))), hA, .h (.idx j12 false), .h (.cell (C.v (vI .i64 (names2.getD j12 (0 : Int))))), .call ⟨[.ro, .ro, .ro], 9, [], true, [], (.tp [(vI .i64 r14.1), (vB r14.2)]), [], 6⟩, .skip, .g (.env 58 (C.v (vB false)))])
            (ps := [C.v (vB (decide (x1.f0 = 1))) = C.v (vB false), C.v (vB (decide (x1.f0 = 2))) = C.v (vB false), C.v (vB (decide (x1.f0 = 3))) = C.v (vB true), x1.f3 = (j10 : Int), j10 < names2.length, ((own (cs eJ names2))[0 + j10 * 1]?).bind readC = some (C.v (vI .i64 (names2.getD j10 (0 : Int)))), x1.f4 = (j12 : Int), j12 < names2.length, ((own (cs eJ names2))[0 + j12 * 1]?).bind readC = some (C.v (vI .i64 (names2.getD j12 (0 : Int)))), CallOK Try.prog 159 [.ro (vI .i64 x1.f1), .ro (vI .i64 (names2.getD j10 (0 : Int))), .ro (vI .i64 (names2.getD j12 (0 : Int)))] [] (.tp [(vI .i64 r14.1), (vB r14.2)]), C.v (vB r14.2) = C.v (vB false), (own (cs eJ s0.f0)) = (cs eJ s0.f0).map C.own, 0 + s0.f0.length * 1 ≤ (cs eJ s0.f0).length, ((cs eJ s0.f0).drop (0)).take (s0.f0.length * 1) = (cs eJ s0.f0), (own (cs eJ s0.f1)) = (cs eJ s0.f1).map C.own, 0 + s0.f1.length * 1 ≤ (cs eJ s0.f1).length, ((cs eJ s0.f1).drop (0)).take (s0.f1.length * 1) = (cs eJ s0.f1), (own (cs eJ s0.f2)) = (cs eJ s0.f2).map C.own, 0 + s0.f2.length * 1 ≤ (cs eJ s0.f2).length, ((cs eJ s0.f2).drop (0)).take (s0.f2.length * 1) = (cs eJ s0.f2), (own (cs eJ names2)) = (cs eJ names2).map C.own, 0 + names2.length * 1 ≤ (cs eJ names2).length, ((cs eJ names2).drop (0)).take (names2.length * 1) = (cs eJ names2), ((.bx [(.sl 1 s0.f0.length (cs eJ s0.f0)), (.sl 1 s0.f1.length (cs eJ s0.f1)), (.sl 1 s0.f2.length (cs eJ s0.f2))]) : V) = (.bx (eT44.f s0)), ((.sl 1 names2.length (cs eJ names2)) : V) = (vS eJ names2), (r14.2 : Bool) = r14.2])
            (by kernel_rfl) ⟨vbB h1, vbB h4, vbB h9, (idx_S h11).1, (idx_S h11).2, readC_at (e := eJ) (k := 0) (d := (0 : Int)) (idx_S h11).2 (by decide) rfl, (idx_S h13).1, (idx_S h13).2, readC_at (e := eJ) (k := 0) (d := (0 : Int)) (idx_S h13).2 (by decide) rfl, F159.fn_c fuel x1.f1 (names2.getD j10 (0 : Int)) (names2.getD j12 (0 : Int)) _ h15, vbB h16, rfl, len_all (e := eJ) (rfl), take_cs (e := eJ) (rfl), rfl, len_all (e := eJ) (rfl), take_cs (e := eJ) (rfl), rfl, len_all (e := eJ) (rfl), take_cs (e := eJ) (rfl), rfl, len_all (e := eJ) (rfl), take_cs (e := eJ) (rfl), rfl, rfl, rfl, trivial⟩ rfl (fun _ _ h => h)
      · 
        rcases cond_cases h with ⟨h19, h⟩ | ⟨h19, h⟩
        · 
          obtain ⟨j20, h21, h⟩ := bind_cases h
          obtain ⟨r22, h23, h⟩ := bind_cases h
          rcases cond_cases h with ⟨h24, h⟩ | ⟨h24, h⟩
          · 
            obtain ⟨j25, h26, h⟩ := bind_cases h
            obtain rfl := Option.some.inj h
            exact runRet_S (r := ⟨Try.f99.results.toList, _, _, _, [(2, (cs eJ s0.f0), (cs eJ s0.f0)), (3, (cs eJ s0.f1), (cs eJ s0.f1)), (4, (cs eJ s0.f2), (cs eJ s0.f2)), (1, (cs eJ (names2.set j25 r22.1)), (cs eJ (names2.set j25 r22.1)))], 9⟩) (n := 100000) (c := (.code (bod Try.f99))) (K := [])
              (hs := [.g (.opn 0 0 2), .g (.opn 0 1 3), .g (.opn 0 2 4), .h (.new 5), hA, hA, .skip, .g (.env 21 (C.v (vB false))), hA, .skip, .g (.env 29 (C.v (vB false))), hA, .skip, .g (.env 40 (C.v (vB false))), hA, .skip, .g (.env 65 (C.v (vB true))), hA, .h (.idx j20 false), .h (.cell (C.v (vI .i64 (names2.getD j20 (0 : Int))))), .call ⟨[.ro, .ro], 9, [(2, (cs eJ s0.f0), (cs eJ s0.f0)), (3, (cs eJ s0.f1), (cs eJ s0.f1)), (4, (cs eJ s0.f2), (cs eJ s0.f2))], false, [], (.tp [(vI .i64 r22.1), (vB r22.2)]), [], 6⟩, .skip, .skip, .skip, .skip, .skip, .skip, .g (.env 77 (C.v (vB true))), hA, .h (.idx j25 false), .h (.cells (own (cs eJ (names2.set j25 r22.1))))])
              (ps := [C.v (vB (decide (x1.f0 = 1))) = C.v (vB false), C.v (vB (decide (x1.f0 = 2))) = C.v (vB false), C.v (vB (decide (x1.f0 = 3))) = C.v (vB false), C.v (vB (decide (x1.f0 = 4))) = C.v (vB true), x1.f3 = (j20 : Int), j20 < names2.length, ((own (cs eJ names2))[0 + j20 * 1]?).bind readC = some (C.v (vI .i64 (names2.getD j20 (0 : Int)))), CallOK Try.prog 160 [.ro (.bx [(.sl 1 s0.f0.length (cs eJ s0.f0)), (.sl 1 s0.f1.length (cs eJ s0.f1)), (.sl 1 s0.f2.length (cs eJ s0.f2))]), .ro (vI .i64 (names2.getD j20 (0 : Int)))] [] (.tp [(vI .i64 r22.1), (vB r22.2)]), (own (cs eJ s0.f0)) = (cs eJ s0.f0).map C.own, 0 + s0.f0.length * 1 ≤ (cs eJ s0.f0).length, ((cs eJ s0.f0).drop (0)).take (s0.f0.length * 1) = (cs eJ s0.f0), (own (cs eJ s0.f1)) = (cs eJ s0.f1).map C.own, 0 + s0.f1.length * 1 ≤ (cs eJ s0.f1).length, ((cs eJ s0.f1).drop (0)).take (s0.f1.length * 1) = (cs eJ s0.f1), (own (cs eJ s0.f2)) = (cs eJ s0.f2).map C.own, 0 + s0.f2.length * 1 ≤ (cs eJ s0.f2).length, ((cs eJ s0.f2).drop (0)).take (s0.f2.length * 1) = (cs eJ s0.f2), (noImL [] && noIm (.tp [(vI .i64 r22.1), (vB r22.2)])) = true, C.v (vB r22.2) = C.v (vB true), x1.f2 = (j25 : Int), j25 < names2.length, 0 + j25 * 1 + 1 ≤ (own (cs eJ names2)).length, setRange (own (cs eJ names2)) (0 + j25 * 1) [C.own (vI .i64 r22.1)] = (own (cs eJ (names2.set j25 r22.1))), (own (cs eJ s0.f0)) = (cs eJ s0.f0).map C.own, 0 + s0.f0.length * 1 ≤ (cs eJ s0.f0).length, ((cs eJ s0.f0).drop (0)).take (s0.f0.length * 1) = (cs eJ s0.f0), (own (cs eJ s0.f1)) = (cs eJ s0.f1).map C.own, 0 + s0.f1.length * 1 ≤ (cs eJ s0.f1).length, ((cs eJ s0.f1).drop (0)).take (s0.f1.length * 1) = (cs eJ s0.f1), (own (cs eJ s0.f2)) = (cs eJ s0.f2).map C.own, 0 + s0.f2.length * 1 ≤ (cs eJ s0.f2).length, ((cs eJ s0.f2).drop (0)).take (s0.f2.length * 1) = (cs eJ s0.f2), (own (cs eJ (names2.set j25 r22.1))) = (cs eJ (names2.set j25 r22.1)).map C.own, 0 + names2.length * 1 ≤ (cs eJ (names2.set j25 r22.1)).length, ((cs eJ (names2.set j25 r22.1)).drop (0)).take (names2.length * 1) = (cs eJ (names2.set j25 r22.1)), ((.bx [(.sl 1 s0.f0.length (cs eJ s0.f0)), (.sl 1 s0.f1.length (cs eJ s0.f1)), (.sl 1 s0.f2.length (cs eJ s0.f2))]) : V) = (.bx (eT44.f s0)), ((.sl 1 names2.length (cs eJ (names2.set j25 r22.1))) : V) = (vS eJ (names2.set j25 r22.1)), (r22.2 : Bool) = r22.2])
              (by kernel_rfl) ⟨vbB h1, vbB h4, vbB h9, vbB h19, (idx_S h21).1, (idx_S h21).2, readC_at (e := eJ) (k := 0) (d := (0 : Int)) (idx_S h21).2 (by decide) rfl, F160.fn_c fuel s0 (names2.getD j20 (0 : Int)) _ h23, rfl, len_all (e := eJ) (rfl), take_cs (e := eJ) (rfl), rfl, len_all (e := eJ) (rfl), take_cs (e := eJ) (rfl), rfl, len_all (e := eJ) (rfl), take_cs (e := eJ) (rfl), by simp [noIm, noImL, noImL_cs, NI.noim], vbB h24, (idx_S h26).1, (idx_S h26).2, own_room (e := eJ) (idx_S h26).2, own_set (e := eJ) (idx_S h26).2 rfl, rfl, len_all (e := eJ) (rfl), take_cs (e := eJ) (rfl), rfl, len_all (e := eJ) (rfl), take_cs (e := eJ) (rfl), rfl, len_all (e := eJ) (rfl), take_cs (e := eJ) (rfl), rfl, len_all (e := eJ) (set_ln), take_cs (e := eJ) (set_ln), rfl, (by rw [show names2.length = (names2.set j25 r22.1).length from (set_ln)]; try rfl), rfl, trivial⟩ rfl (fun _ _ h => h)
          · 
            obtain rfl := Option.some.inj h
            exact runRet_S (r := ⟨Try.f99.results.toList, _, _, _, [(2, (cs eJ s0.f0), (cs eJ s0.f0)), (3, (cs eJ s0.f1), (cs eJ s0.f1)), (4, (cs eJ s0.f2), (cs eJ s0.f2)), (1, (cs eJ names2), (cs eJ names2))], 9⟩) (n := 100000) (c := (.code (bod Try.f99))) (K := [])
              (hs := [.g (.opn 0 0 2), .g (.opn 0 1 3), .g (.opn 0 2 4), .h (.new 5), hA, hA, .skip, .g (.env 21 (C.v (vB false))), hA, .skip, .g (.env 29 (C.v (vB false))), hA, .skip, .g (.env 40 (C.v (vB false))), hA, .skip, .g (.env 65 (C.v (vB true))), hA, .h (.idx j20 false), .h (.cell (C.v (vI .i64 (names2.getD j20 (0 : Int))))), .call ⟨[.ro, .ro], 9, [(2, (cs eJ s0.f0), (cs eJ s0.f0)), (3, (cs eJ s0.f1), (cs eJ s0.f1)), (4, (cs eJ s0.f2), (cs eJ s0.f2))], false, [], (.tp [(vI .i64 r22.1), (vB r22.2)]), [], 6⟩, .skip, .skip, .skip, .skip, .skip, .skip, .g (.env 77 (C.v (vB false)))])
              (ps := [C.v (vB (decide (x1.f0 = 1))) = C.v (vB false), C.v (vB (decide (x1.f0 = 2))) = C.v (vB false), C.v (vB (decide (x1.f0 = 3))) = C.v (vB false), C.v (vB (decide (x1.f0 = 4))) = C.v (vB true), x1.f3 = (j20 : Int), j20 < names2.length, ((own (cs eJ names2))[0 + j20 * 1]?).bind readC = some (C.v (vI .i64 (names2.getD j20 (0 : Int)))), CallOK Try.prog 160 [.ro (.bx [(.sl 1 s0.f0.length (cs eJ s0.f0)), (.sl 1 s0.f1.length (cs eJ s0.f1)), (.sl 1 s0.f2.length (cs eJ s0.f2))]), .ro (vI .i64 (names2.getD j20 (0 : Int)))] [] (.tp [(vI .i64 r22.1), (vB r22.2)]), (own (cs eJ s0.f0)) = (cs eJ s0.f0).map C.own, 0 + s0.f0.length * 1 ≤ (cs eJ s0.f0).length, ((cs eJ s0.f0).drop (0)).take (s0.f0.length * 1) = (cs eJ s0.f0), (own (cs eJ s0.f1)) = (cs eJ s0.f1).map C.own, 0 + s0.f1.length * 1 ≤ (cs eJ s0.f1).length, ((cs eJ s0.f1).drop (0)).take (s0.f1.length * 1) = (cs eJ s0.f1), (own (cs eJ s0.f2)) = (cs eJ s0.f2).map C.own, 0 + s0.f2.length * 1 ≤ (cs eJ s0.f2).length, ((cs eJ s0.f2).drop (0)).take (s0.f2.length * 1) = (cs eJ s0.f2), (noImL [] && noIm (.tp [(vI .i64 r22.1), (vB r22.2)])) = true, C.v (vB r22.2) = C.v (vB false), (own (cs eJ s0.f0)) = (cs eJ s0.f0).map C.own, 0 + s0.f0.length * 1 ≤ (cs eJ s0.f0).length, ((cs eJ s0.f0).drop (0)).take (s0.f0.length * 1) = (cs eJ s0.f0), (own (cs eJ s0.f1)) = (cs eJ s0.f1).map C.own, 0 + s0.f1.length * 1 ≤ (cs eJ s0.f1).length, ((cs eJ s0.f1).drop (0)).take (s0.f1.length * 1) = (cs eJ s0.f1), (own (cs eJ s0.f2)) = (cs eJ s0.f2).map C.own, 0 + s0.f2.length * 1 ≤ (cs eJ s0.f2).length, ((cs eJ s0.f2).drop (0)).take (s0.f2.length * 1) = (cs eJ s0.f2), (own (cs eJ names2)) = (cs eJ names2).map C.own, 0 + names2.length * 1 ≤ (cs eJ names2).length, ((cs eJ names2).drop (0)).take (names2.length * 1) = (cs eJ names2), ((.bx [(.sl 1 s0.f0.length (cs eJ s0.f0)), (.sl 1 s0.f1.length (cs eJ s0.f1)), (.sl 1 s0.f2.length (cs eJ s0.f2))]) : V) = (.bx (eT44.f s0)), ((.sl 1 names2.length (cs eJ names2)) : V) = (vS eJ names2), (r22.2 : Bool) = r22.2])
              (by kernel_rfl) ⟨vbB h1, vbB h4, vbB h9, vbB h19, (idx_S h21).1, (idx_S h21).2, readC_at (e := eJ) (k := 0) (d := (0 : Int)) (idx_S h21).2 (by decide) rfl, F160.fn_c fuel s0 (names2.getD j20 (0 : Int)) _ h23, rfl, len_all (e := eJ) (rfl), take_cs (e := eJ) (rfl), rfl, len_all (e := eJ) (rfl), take_cs (e := eJ) (rfl), rfl, len_all (e := eJ) (rfl), take_cs (e := eJ) (rfl), by simp [noIm, noImL, noImL_cs, NI.noim], vbB h24, rfl, len_all (e := eJ) (rfl), take_cs (e := eJ) (rfl), rfl, len_all (e := eJ) (rfl), take_cs (e := eJ) (rfl), rfl, len_all (e := eJ) (rfl), take_cs (e := eJ) (rfl), rfl, len_all (e := eJ) (rfl), take_cs (e := eJ) (rfl), rfl, rfl, rfl, trivial⟩ rfl (fun _ _ h => h)
        · 
          rcases cond_cases h with ⟨h27, h⟩ | ⟨h27, h⟩
          · 
            obtain ⟨j28, h29, h⟩ := bind_cases h
            obtain ⟨j30, h31, h⟩ := bind_cases h
            obtain ⟨r32, h33, h⟩ := bind_cases h
            obtain rfl := Option.some.inj h
            exact runRet_S (r := ⟨Try.f99.results.toList, _, _, _, [(6, (cs eJ r32.2.f0), (cs eJ r32.2.f0)), (7, (cs eJ r32.2.f1), (cs eJ r32.2.f1)), (8, (cs eJ r32.2.f2), (cs eJ r32.2.f2)), (1, (cs eJ names2), (cs eJ names2))], 9⟩) (n := 100000) (c := (.code (bod Try.f99))) (K := [])
              (hs := [.g (.opn 0 0 2), .g (.opn 0 1 3), .g (.opn 0 2 4), .h (.new 5), hA, hA, .skip, .g (.env 21 (C.v (vB false))), hA, .skip, .g (.env 29 (C.v (vB false))), hA, .skip, .g (.env 40 (C.v (vB false))), hA, .skip, .g (.env 65 (C.v (vB false))), hA, .skip, .g (.env 84 (C.v (vB true))), .any [[], [], [], [], [], [], [], [], [], [], [], [0, 2, 3, 4], []], hA, .h (.idx j28 false), .h (.cell (C.v (vI .i64 (names2.getD j28 (0 : Int))))), hA, .h (.idx j30 false), .h (.cell (C.v (vI .i64 (names2.getD j30 (0 : Int))))), .call ⟨[(.io none), .ro, .ro], 9, [(2, (cs eJ s0.f0), (cs eJ s0.f0)), (3, (cs eJ s0.f1), (cs eJ s0.f1)), (4, (cs eJ s0.f2), (cs eJ s0.f2))], true, [(.bx (eT44.f r32.2))], (vB r32.1), [[C.own (vS eJ r32.2.f0), C.own (vS eJ r32.2.f1), C.own (vS eJ r32.2.f2)]], 6⟩, .g (.opn 0 0 6), .g (.opn 0 1 7), .g (.opn 0 2 8)])
              (ps := [C.v (vB (decide (x1.f0 = 1))) = C.v (vB false), C.v (vB (decide (x1.f0 = 2))) = C.v (vB false), C.v (vB (decide (x1.f0 = 3))) = C.v (vB false), C.v (vB (decide (x1.f0 = 4))) = C.v (vB false), C.v (vB (decide (x1.f0 = 5))) = C.v (vB true), x1.f3 = (j28 : Int), j28 < names2.length, ((own (cs eJ names2))[0 + j28 * 1]?).bind readC = some (C.v (vI .i64 (names2.getD j28 (0 : Int)))), x1.f4 = (j30 : Int), j30 < names2.length, ((own (cs eJ names2))[0 + j30 * 1]?).bind readC = some (C.v (vI .i64 (names2.getD j30 (0 : Int)))), CallOK Try.prog 161 [.io (.bx [(.sl 1 s0.f0.length (cs eJ s0.f0)), (.sl 1 s0.f1.length (cs eJ s0.f1)), (.sl 1 s0.f2.length (cs eJ s0.f2))]), .ro (vI .i64 (names2.getD j28 (0 : Int))), .ro (vI .i64 (names2.getD j30 (0 : Int)))] [(.bx (eT44.f r32.2))] (vB r32.1), (own (cs eJ s0.f0)) = (cs eJ s0.f0).map C.own, 0 + s0.f0.length * 1 ≤ (cs eJ s0.f0).length, ((cs eJ s0.f0).drop (0)).take (s0.f0.length * 1) = (cs eJ s0.f0), (own (cs eJ s0.f1)) = (cs eJ s0.f1).map C.own, 0 + s0.f1.length * 1 ≤ (cs eJ s0.f1).length, ((cs eJ s0.f1).drop (0)).take (s0.f1.length * 1) = (cs eJ s0.f1), (own (cs eJ s0.f2)) = (cs eJ s0.f2).map C.own, 0 + s0.f2.length * 1 ≤ (cs eJ s0.f2).length, ((cs eJ s0.f2).drop (0)).take (s0.f2.length * 1) = (cs eJ s0.f2), ((eT44.f r32.2) : List V).length = 3, ((eT44.f r32.2) : List V).length = 3 ∨ ([C.sr 2 0 1 s0.f0.length, C.sr 3 0 1 s0.f1.length, C.sr 4 0 1 s0.f2.length] : List C).length ≤ 0 + 3, ([C.sr 2 0 1 s0.f0.length, C.sr 3 0 1 s0.f1.length, C.sr 4 0 1 s0.f2.length] : List C).take 0 ++ ((eT44.f r32.2) : List V).map C.own ++ ([C.sr 2 0 1 s0.f0.length, C.sr 3 0 1 s0.f1.length, C.sr 4 0 1 s0.f2.length] : List C).drop (0 + 3) = [C.own (vS eJ r32.2.f0), C.own (vS eJ r32.2.f1), C.own (vS eJ r32.2.f2)], (own (cs eJ r32.2.f0)) = (cs eJ r32.2.f0).map C.own, 0 + r32.2.f0.length * 1 ≤ (cs eJ r32.2.f0).length, ((cs eJ r32.2.f0).drop (0)).take (r32.2.f0.length * 1) = (cs eJ r32.2.f0), (own (cs eJ r32.2.f1)) = (cs eJ r32.2.f1).map C.own, 0 + r32.2.f1.length * 1 ≤ (cs eJ r32.2.f1).length, ((cs eJ r32.2.f1).drop (0)).take (r32.2.f1.length * 1) = (cs eJ r32.2.f1), (own (cs eJ r32.2.f2)) = (cs eJ r32.2.f2).map C.own, 0 + r32.2.f2.length * 1 ≤ (cs eJ r32.2.f2).length, ((cs eJ r32.2.f2).drop (0)).take (r32.2.f2.length * 1) = (cs eJ r32.2.f2), (own (cs eJ names2)) = (cs eJ names2).map C.own, 0 + names2.length * 1 ≤ (cs eJ names2).length, ((cs eJ names2).drop (0)).take (names2.length * 1) = (cs eJ names2), ((.bx [(.sl 1 r32.2.f0.length (cs eJ r32.2.f0)), (.sl 1 r32.2.f1.length (cs eJ r32.2.f1)), (.sl 1 r32.2.f2.length (cs eJ r32.2.f2))]) : V) = (.bx (eT44.f r32.2)), ((.sl 1 names2.length (cs eJ names2)) : V) = (vS eJ names2), (r32.1 : Bool) = r32.1])
              (by kernel_rfl) ⟨vbB h1, vbB h4, vbB h9, vbB h19, vbB h27, (idx_S h29).1, (idx_S h29).2, readC_at (e := eJ) (k := 0) (d := (0 : Int)) (idx_S h29).2 (by decide) rfl, (idx_S h31).1, (idx_S h31).2, readC_at (e := eJ) (k := 0) (d := (0 : Int)) (idx_S h31).2 (by decide) rfl, F161.fn_c fuel s0 (names2.getD j28 (0 : Int)) (names2.getD j30 (0 : Int)) _ h33, rfl, len_all (e := eJ) (rfl), take_cs (e := eJ) (rfl), rfl, len_all (e := eJ) (rfl), take_cs (e := eJ) (rfl), rfl, len_all (e := eJ) (rfl), take_cs (e := eJ) (rfl), rfl, .inl rfl, rfl, rfl, len_all (e := eJ) (rfl), take_cs (e := eJ) (rfl), rfl, len_all (e := eJ) (rfl), take_cs (e := eJ) (rfl), rfl, len_all (e := eJ) (rfl), take_cs (e := eJ) (rfl), rfl, len_all (e := eJ) (rfl), take_cs (e := eJ) (rfl), rfl, rfl, rfl, trivial⟩ rfl (fun _ _ h => h)
          · 
            obtain ⟨j34, h35, h⟩ := bind_cases h
            obtain ⟨r36, h37, h⟩ := bind_cases h
            obtain rfl := Option.some.inj h
            exact runRet_S (r := ⟨Try.f99.results.toList, _, _, _, [(6, (cs eJ r36.2.f0), (cs eJ r36.2.f0)), (7, (cs eJ r36.2.f1), (cs eJ r36.2.f1)), (8, (cs eJ r36.2.f2), (cs eJ r36.2.f2)), (1, (cs eJ names2), (cs eJ names2))], 9⟩) (n := 100000) (c := (.code (bod Try.f99))) (K := [])
              (hs := [.g (.opn 0 0 2), .g (.opn 0 1 3), .g (.opn 0 2 4), .h (.new 5), hA, hA, .skip, .g (.env 21 (C.v (vB false))), hA, .skip, .g (.env 29 (C.v (vB false))), hA, .skip, .g (.env 40 (C.v (vB false))), hA, .skip, .g (.env 65 (C.v (vB false))), hA, .skip, .g (.env 84 (C.v (vB false))), hA, .h (.idx j34 false), .h (.cell (C.v (vI .i64 (names2.getD j34 (0 : Int))))), .call ⟨[(.io none), .ro], 9, [(2, (cs eJ s0.f0), (cs eJ s0.f0)), (3, (cs eJ s0.f1), (cs eJ s0.f1)), (4, (cs eJ s0.f2), (cs eJ s0.f2))], true, [(.bx (eT44.f r36.2))], (vB r36.1), [[C.own (vS eJ r36.2.f0), C.own (vS eJ r36.2.f1), C.own (vS eJ r36.2.f2)]], 6⟩, .g (.opn 0 0 6), .g (.opn 0 1 7), .g (.opn 0 2 8)])
              (ps := [C.v (vB (decide (x1.f0 = 1))) = C.v (vB false), C.v (vB (decide (x1.f0 = 2))) = C.v (vB false), C.v (vB (decide (x1.f0 = 3))) = C.v (vB false), C.v (vB (decide (x1.f0 = 4))) = C.v (vB false), C.v (vB (decide (x1.f0 = 5))) = C.v (vB false), x1.f3 = (j34 : Int), j34 < names2.length, ((own (cs eJ names2))[0 + j34 * 1]?).bind readC = some (C.v (vI .i64 (names2.getD j34 (0 : Int)))), CallOK Try.prog 162 [.io (.bx [(.sl 1 s0.f0.length (cs eJ s0.f0)), (.sl 1 s0.f1.length (cs eJ s0.f1)), (.sl 1 s0.f2.length (cs eJ s0.f2))]), .ro (vI .i64 (names2.getD j34 (0 : Int)))] [(.bx (eT44.f r36.2))] (vB r36.1), (own (cs eJ s0.f0)) = (cs eJ s0.f0).map C.own, 0 + s0.f0.length * 1 ≤ (cs eJ s0.f0).length, ((cs eJ s0.f0).drop (0)).take (s0.f0.length * 1) = (cs eJ s0.f0), (own (cs eJ s0.f1)) = (cs eJ s0.f1).map C.own, 0 + s0.f1.length * 1 ≤ (cs eJ s0.f1).length, ((cs eJ s0.f1).drop (0)).take (s0.f1.length * 1) = (cs eJ s0.f1), (own (cs eJ s0.f2)) = (cs eJ s0.f2).map C.own, 0 + s0.f2.length * 1 ≤ (cs eJ s0.f2).length, ((cs eJ s0.f2).drop (0)).take (s0.f2.length * 1) = (cs eJ s0.f2), ((eT44.f r36.2) : List V).length = 3, ((eT44.f r36.2) : List V).length = 3 ∨ ([C.sr 2 0 1 s0.f0.length, C.sr 3 0 1 s0.f1.length, C.sr 4 0 1 s0.f2.length] : List C).length ≤ 0 + 3, ([C.sr 2 0 1 s0.f0.length, C.sr 3 0 1 s0.f1.length, C.sr 4 0 1 s0.f2.length] : List C).take 0 ++ ((eT44.f r36.2) : List V).map C.own ++ ([C.sr 2 0 1 s0.f0.length, C.sr 3 0 1 s0.f1.length, C.sr 4 0 1 s0.f2.length] : List C).drop (0 + 3) = [C.own (vS eJ r36.2.f0), C.own (vS eJ r36.2.f1), C.own (vS eJ r36.2.f2)], (own (cs eJ r36.2.f0)) = (cs eJ r36.2.f0).map C.own, 0 + r36.2.f0.length * 1 ≤ (cs eJ r36.2.f0).length, ((cs eJ r36.2.f0).drop (0)).take (r36.2.f0.length * 1) = (cs eJ r36.2.f0), (own (cs eJ r36.2.f1)) = (cs eJ r36.2.f1).map C.own, 0 + r36.2.f1.length * 1 ≤ (cs eJ r36.2.f1).length, ((cs eJ r36.2.f1).drop (0)).take (r36.2.f1.length * 1) = (cs eJ r36.2.f1), (own (cs eJ r36.2.f2)) = (cs eJ r36.2.f2).map C.own, 0 + r36.2.f2.length * 1 ≤ (cs eJ r36.2.f2).length, ((cs eJ r36.2.f2).drop (0)).take (r36.2.f2.length * 1) = (cs eJ r36.2.f2), (own (cs eJ names2)) = (cs eJ names2).map C.own, 0 + names2.length * 1 ≤ (cs eJ names2).length, ((cs eJ names2).drop (0)).take (names2.length * 1) = (cs eJ names2), ((.bx [(.sl 1 r36.2.f0.length (cs eJ r36.2.f0)), (.sl 1 r36.2.f1.length (cs eJ r36.2.f1)), (.sl 1 r36.2.f2.length (cs eJ r36.2.f2))]) : V) = (.bx (eT44.f r36.2)), ((.sl 1 names2.length (cs eJ names2)) : V) = (vS eJ names2), (r36.1 : Bool) = r36.1])
              (by kernel_rfl) ⟨vbB h1, vbB h4, vbB h9, vbB h19, vbB h27, (idx_S h35).1, (idx_S h35).2, readC_at (e := eJ) (k := 0) (d := (0 : Int)) (idx_S h35).2 (by decide) rfl, F162.fn_c fuel s0 (names2.getD j34 (0 : Int)) _ h37, rfl, len_all (e := eJ) (rfl), take_cs (e := eJ) (rfl), rfl, len_all (e := eJ) (rfl), take_cs (e := eJ) (rfl), rfl, len_all (e := eJ) (rfl), take_cs (e := eJ) (rfl), rfl, .inl rfl, rfl, rfl, len_all (e := eJ) (rfl), take_cs (e := eJ) (rfl), rfl, len_all (e := eJ) (rfl), take_cs (e := eJ) (rfl), rfl, len_all (e := eJ) (rfl), take_cs (e := eJ) (rfl), rfl, len_all (e := eJ) (rfl), take_cs (e := eJ) (rfl), rfl, rfl, rfl, trivial⟩ rfl (fun _ _ h => h)
end F99
namespace F100
/-! impl.way -/
def fn (fuel : Nat) (kind0 : Int) (test1 : Int) (many2 : Int) : Option Int :=
  cond (decide (kind0 = 2))
  ((F163.fn fuel (!decide (test1 = 0))).bind fun r2 =>
    some (w64 ((1 : Int) - r2)))
  (cond (decide (kind0 = 5))
    (some (if (w64 (many2 - 1) : Int) < (test1 : Int) then (w64 (many2 - 1) : Int) else (test1 : Int)))
    (some 0))
theorem ent : enterable Try.prog 100 = true := by kernel_rfl
theorem fn_c (fuel : Nat) (kind0 : Int) (test1 : Int) (many2 : Int) (r : Int) (h : fn fuel kind0 test1 many2 = some r) : CallOK Try.prog 100 [.ro (vI .i64 kind0), .ro (vI .i64 test1), .ro (vI .i64 many2)] [] (vI .i64 r) := by
  refine contract_run Try.func100 (b := bod Try.f100) rfl ent ?_
  unfold fn at h
  rcases cond_cases h with ⟨h1, h⟩ | ⟨h1, h⟩
  · 
    obtain ⟨r2, h3, h⟩ := bind_cases h
    obtain rfl := Option.some.inj h
    exact runRet_S (r := ⟨Try.f100.results.toList, _, _, _, [], 9⟩) (n := 100000) (c := (.code (bod Try.f100))) (K := [])
      (hs := [hA, .skip, .g (.env 8 (C.v (vB true))), hA, .call ⟨[.ro], 9, [], true, [], (vI .i64 r2), [], 0⟩, hA])
      (ps := [C.v (vB (decide (kind0 = 2))) = C.v (vB true), CallOK Try.prog 163 [.ro (vB (!decide (test1 = 0)))] [] (vI .i64 r2), (w64 ((1 : Int) - r2) : Int) = (w64 ((1 : Int) - r2))])
      (by kernel_rfl) ⟨vbB h1, F163.fn_c fuel (!decide (test1 = 0)) _ h3, rfl, trivial⟩ rfl (fun _ _ h => h)
  · 
    rcases cond_cases h with ⟨h4, h⟩ | ⟨h4, h⟩
    · 
      obtain rfl := Option.some.inj h
      exact runRet_S (r := ⟨Try.f100.results.toList, _, _, _, [], 9⟩) (n := 100000) (c := (.code (bod Try.f100))) (K := [])
        (hs := [hA, .skip, .g (.env 8 (C.v (vB false))), hA, .skip, .g (.env 14 (C.v (vB true))), hA, .h .mm])
        (ps := [C.v (vB (decide (kind0 = 2))) = C.v (vB false), C.v (vB (decide (kind0 = 5))) = C.v (vB true), (if (w64 (many2 - 1) : Int) < (test1 : Int) then (w64 (many2 - 1) : Int) else (test1 : Int) : Int) = (if (w64 (many2 - 1) : Int) < (test1 : Int) then (w64 (many2 - 1) : Int) else (test1 : Int))])
        (by kernel_rfl) ⟨vbB h1, vbB h4, rfl, trivial⟩ rfl (fun _ _ h => h)
    · 
      obtain rfl := Option.some.inj h
      exact runRet_S (r := ⟨Try.f100.results.toList, _, _, _, [], 9⟩) (n := 100000) (c := (.code (bod Try.f100))) (K := [])
        (hs := [hA, .skip, .g (.env 8 (C.v (vB false))), hA, .skip, .g (.env 14 (C.v (vB false)))])
        (ps := [C.v (vB (decide (kind0 = 2))) = C.v (vB false), C.v (vB (decide (kind0 = 5))) = C.v (vB false), (0 : Int) = 0])
        (by kernel_rfl) ⟨vbB h1, vbB h4, rfl, trivial⟩ rfl (fun _ _ h => h)
end F100
namespace F32
/-! impl.RunFlow -/
noncomputable def K0 := (subC [1, 0, 0] (bod Try.f32) []).2
noncomputable def B0 := (subC [1, 0, 0] (bod Try.f32) []).1
noncomputable def K1 := (subC [1, 1, 1, 1, 1, 0, 1, 0] (bod Try.f32) []).2
noncomputable def L1 := (subC [1, 1, 1, 1, 1, 0, 1, 0, 0] (bod Try.f32) []).1
noncomputable def K2 := (subC [0, 0] L1 []).2
noncomputable def B2 := (subC [0, 0] L1 []).1
noncomputable def K3 := (subC [1, 0, 0, 1, 0, 1, 0] L1 []).2
noncomputable def L3 := (subC [1, 0, 0, 1, 0, 1, 0, 0] L1 []).1
def I0 (f1 : List T115) (fuel2 : Int) (s3 : List Int) (s4 : List Int) (s5 : List Int) (v6 : List Int) : TL := ⟨98, [C.dead, C.dead, C.dead], [(0, C.v (vS eT115 f1)), (2, C.v (vI .i64 fuel2)), (4, C.pr 0 0), (6, C.pr 1 0)], [(2, (cs eJ v6)), (3, (cs eJ v6)), (4, (cs eJ v6))], [(0, [C.v (vS eJ s3), C.v (vS eJ s4), C.v (vS eJ s5)]), (1, [C.sr 2 0 1 v6.length, C.sr 3 0 1 v6.length, C.sr 4 0 1 v6.length])]⟩
def J0_0 (f1 : List T115) (fuel2 : Int) (s3 : List Int) (s4 : List Int) (s5 : List Int) (v6 : List Int) (o : Bool) : TL := ⟨98, [C.dead, C.dead, C.dead], [(0, C.v (vS eT115 f1)), (2, C.v (vI .i64 fuel2)), (4, C.pr 0 0), (6, C.pr 1 0), (30, C.v (vB o))], [(2, (cs eJ v6)), (3, (cs eJ v6)), (4, (cs eJ v6))], [(0, [C.v (vS eJ s3), C.v (vS eJ s4), C.v (vS eJ s5)]), (1, [C.sr 2 0 1 v6.length, C.sr 3 0 1 v6.length, C.sr 4 0 1 v6.length])]⟩
def Q0 (f1 : List T115) (fuel2 : Int) (s3 : List Int) (s4 : List Int) (s5 : List Int) (v6 : List Int) (r : Bool) (e : Exit) (st : St) : Prop := (fun o => e = .normal ∧ Le st (J0_0 f1 fuel2 s3 s4 s5 v6 o).sl.st) r
def p0 (fuel : Nat) (f1 : List T115) (fuel2 : Int) (s3 : List Int) (s4 : List Int) (s5 : List Int) (v6 : List Int) : Option Bool :=
  (F96.fn fuel f1).bind fun r7 =>
  cond (!r7)
  (some true)
  ((F70.fn fuel (⟨s3, s4, s5⟩ : T44)).bind fun r10 =>
    cond (!r10)
    (some true)
    ((F97.fn fuel fuel2 0 2000).bind fun r13 =>
      some (!r13)))
theorem p0_c (fuel : Nat) (f1 : List T115) (fuel2 : Int) (s3 : List Int) (s4 : List Int) (s5 : List Int) (v6 : List Int) (r : Bool) (h : p0 fuel f1 fuel2 s3 s4 s5 v6 = some r) : TW Try.prog B0 (I0 f1 fuel2 s3 s4 s5 v6).sl.st (Q0 f1 fuel2 s3 s4 s5 v6 r) := by
  unfold p0 at h
  obtain ⟨r7, h8, h⟩ := bind_cases h
  rcases cond_cases h with ⟨h9, h⟩ | ⟨h9, h⟩
  · 
    obtain rfl := Option.some.inj h
    exact runAt_S (Q := Q0 f1 fuel2 s3 s4 s5 v6 _) (n := 100000) (c := (.code B0)) (K := []) (s := (I0 f1 fuel2 s3 s4 s5 v6).sl) (e := .normal) (t := J0_0 f1 fuel2 s3 s4 s5 v6 true) (l := [(0, 0), (1, 1), (2, 2), (3, 3), (4, 4)])
      (hs := [.call ⟨[.ro], 9, [], true, [], (vB r7), [], 5⟩, hA, .skip, .g (.env 21 (C.v (vB true)))])
      (ps := [CallOK Try.prog 96 [.ro (vS eT115 f1)] [] (vB r7), C.v (vB (!r7)) = C.v (vB true), ((vS eT115 f1) : V) = (vS eT115 f1), (fuel2 : Int) = fuel2, 0 = 0, 0 = 0, (true : Bool) = true, (own (cs eJ v6)) = (cs eJ v6).map C.own, (own (cs eJ v6)) = (cs eJ v6).map C.own, (own (cs eJ v6)) = (cs eJ v6).map C.own, ((vS eJ s3) : V) = (vS eJ s3), ((vS eJ s4) : V) = (vS eJ s4), ((vS eJ s5) : V) = (vS eJ s5), 0 = 0, v6.length = v6.length, 0 = 0, v6.length = v6.length, 0 = 0, v6.length = v6.length])
      (by kernel_rfl) ⟨F96.fn_c fuel f1 _ h8, vbB h9, rfl, rfl, rfl, rfl, rfl, rfl, rfl, rfl, rfl, rfl, rfl, rfl, rfl, rfl, rfl, rfl, rfl, trivial⟩ (fun st hl => ⟨rfl, hl⟩)
  · 
    obtain ⟨r10, h11, h⟩ := bind_cases h
    rcases cond_cases h with ⟨h12, h⟩ | ⟨h12, h⟩
    · 
      obtain rfl := Option.some.inj h
      exact runAt_S (Q := Q0 f1 fuel2 s3 s4 s5 v6 _) (n := 100000) (c := (.code B0)) (K := []) (s := (I0 f1 fuel2 s3 s4 s5 v6).sl) (e := .normal) (t := J0_0 f1 fuel2 s3 s4 s5 v6 true) (l := [(0, 0), (1, 1), (2, 2), (3, 3), (4, 4)])
        (hs := [.call ⟨[.ro], 9, [], true, [], (vB r7), [], 5⟩, hA, .skip, .g (.env 21 (C.v (vB false))), hA, .call ⟨[.ro], 9, [], true, [], (vB r10), [], 5⟩, hA, .skip, .skip, .g (.env 26 (C.v (vB true)))])
        (ps := [CallOK Try.prog 96 [.ro (vS eT115 f1)] [] (vB r7), C.v (vB (!r7)) = C.v (vB false), CallOK Try.prog 70 [.ro (.ag [(vS eJ s3), (vS eJ s4), (vS eJ s5)])] [] (vB r10), C.v (vB (!r10)) = C.v (vB true), ((vS eT115 f1) : V) = (vS eT115 f1), (fuel2 : Int) = fuel2, 0 = 0, 0 = 0, (true : Bool) = true, (own (cs eJ v6)) = (cs eJ v6).map C.own, (own (cs eJ v6)) = (cs eJ v6).map C.own, (own (cs eJ v6)) = (cs eJ v6).map C.own, ((vS eJ s3) : V) = (vS eJ s3), ((vS eJ s4) : V) = (vS eJ s4), ((vS eJ s5) : V) = (vS eJ s5), 0 = 0, v6.length = v6.length, 0 = 0, v6.length = v6.length, 0 = 0, v6.length = v6.length])
        (by kernel_rfl) ⟨F96.fn_c fuel f1 _ h8, vbB h9, F70.fn_c fuel (⟨s3, s4, s5⟩ : T44) _ h11, vbB h12, rfl, rfl, rfl, rfl, rfl, rfl, rfl, rfl, rfl, rfl, rfl, rfl, rfl, rfl, rfl, rfl, rfl, trivial⟩ (fun st hl => ⟨rfl, hl⟩)
    · 
      obtain ⟨r13, h14, h⟩ := bind_cases h
      obtain rfl := Option.some.inj h
      exact runAt_S (Q := Q0 f1 fuel2 s3 s4 s5 v6 _) (n := 100000) (c := (.code B0)) (K := []) (s := (I0 f1 fuel2 s3 s4 s5 v6).sl) (e := .normal) (t := J0_0 f1 fuel2 s3 s4 s5 v6 (!r13)) (l := [(0, 0), (1, 1), (2, 2), (3, 3), (4, 4)])
        (hs := [.call ⟨[.ro], 9, [], true, [], (vB r7), [], 5⟩, hA, .skip, .g (.env 21 (C.v (vB false))), hA, .call ⟨[.ro], 9, [], true, [], (vB r10), [], 5⟩, hA, .skip, .skip, .g (.env 26 (C.v (vB false))), .call ⟨[.ro, .ro, .ro], 9, [], true, [], (vB r13), [], 5⟩, hA])
        (ps := [CallOK Try.prog 96 [.ro (vS eT115 f1)] [] (vB r7), C.v (vB (!r7)) = C.v (vB false), CallOK Try.prog 70 [.ro (.ag [(vS eJ s3), (vS eJ s4), (vS eJ s5)])] [] (vB r10), C.v (vB (!r10)) = C.v (vB false), CallOK Try.prog 97 [.ro (vI .i64 fuel2), .ro (vI .i64 0), .ro (vI .i64 2000)] [] (vB r13), ((vS eT115 f1) : V) = (vS eT115 f1), (fuel2 : Int) = fuel2, 0 = 0, 0 = 0, (!r13 : Bool) = (!r13), (own (cs eJ v6)) = (cs eJ v6).map C.own, (own (cs eJ v6)) = (cs eJ v6).map C.own, (own (cs eJ v6)) = (cs eJ v6).map C.own, ((vS eJ s3) : V) = (vS eJ s3), ((vS eJ s4) : V) = (vS eJ s4), ((vS eJ s5) : V) = (vS eJ s5), 0 = 0, v6.length = v6.length, 0 = 0, v6.length = v6.length, 0 = 0, v6.length = v6.length])
        (by kernel_rfl) ⟨F96.fn_c fuel f1 _ h8, vbB h9, F70.fn_c fuel (⟨s3, s4, s5⟩ : T44) _ h11, vbB h12, F97.fn_c fuel fuel2 0 2000 _ h14, rfl, rfl, rfl, rfl, rfl, rfl, rfl, rfl, rfl, rfl, rfl, rfl, rfl, rfl, rfl, rfl, rfl, trivial⟩ (fun st hl => ⟨rfl, hl⟩)
def I2 (f34 : List T115) (fuel35 : Int) (v36 : List Int) (v37 : List Int) (v38 : List Int) (out39 : List Int) (out40 : List Int) (out41 : List Int) (names42 : List Int) (end43 : Int) (done44 : Int) (at45 : Int) : TL := ⟨98, [C.dead, C.dead, C.dead], [(0, C.v (vS eT115 f34)), (2, C.v (vI .i64 fuel35)), (6, C.pr 0 0), (10, C.pr 4 0), (11, C.sr 8 0 1 names42.length), (12, C.v (vI .i64 end43)), (13, C.v (vI .i64 done44)), (14, C.v (vI .i64 at45))], [(1, (cs eJ v36)), (2, (cs eJ v37)), (3, (cs eJ v38)), (5, (cs eJ out39)), (6, (cs eJ out40)), (7, (cs eJ out41)), (8, (cs eJ names42))], [(0, [C.sr 1 0 1 v36.length, C.sr 2 0 1 v37.length, C.sr 3 0 1 v38.length]), (4, [C.sr 5 0 1 out39.length, C.sr 6 0 1 out40.length, C.sr 7 0 1 out41.length])]⟩
def J2_0 (f34 : List T115) (fuel35 : Int) (v36 : List Int) (v37 : List Int) (v38 : List Int) (out39 : List Int) (out40 : List Int) (out41 : List Int) (names42 : List Int) (end43 : Int) (done44 : Int) (at45 : Int) (o : Bool) : TL := ⟨98, [C.dead, C.dead, C.dead], [(0, C.v (vS eT115 f34)), (2, C.v (vI .i64 fuel35)), (6, C.pr 0 0), (10, C.pr 4 0), (11, C.sr 8 0 1 names42.length), (12, C.v (vI .i64 end43)), (13, C.v (vI .i64 done44)), (14, C.v (vI .i64 at45)), (45, C.v (vB o))], [(1, (cs eJ v36)), (2, (cs eJ v37)), (3, (cs eJ v38)), (5, (cs eJ out39)), (6, (cs eJ out40)), (7, (cs eJ out41)), (8, (cs eJ names42))], [(0, [C.sr 1 0 1 v36.length, C.sr 2 0 1 v37.length, C.sr 3 0 1 v38.length]), (4, [C.sr 5 0 1 out39.length, C.sr 6 0 1 out40.length, C.sr 7 0 1 out41.length])]⟩
def Q2 (f34 : List T115) (fuel35 : Int) (v36 : List Int) (v37 : List Int) (v38 : List Int) (out39 : List Int) (out40 : List Int) (out41 : List Int) (names42 : List Int) (end43 : Int) (done44 : Int) (at45 : Int) (r : Bool) (e : Exit) (st : St) : Prop := (fun o => e = .normal ∧ Le st (J2_0 f34 fuel35 v36 v37 v38 out39 out40 out41 names42 end43 done44 at45 o).sl.st) r
def p2 (fuel : Nat) (f34 : List T115) (fuel35 : Int) (v36 : List Int) (v37 : List Int) (v38 : List Int) (out39 : List Int) (out40 : List Int) (out41 : List Int) (names42 : List Int) (end43 : Int) (done44 : Int) (at45 : Int) : Option Bool :=
  cond (decide (end43 = 3))
  (some (decide (done44 < fuel35)))
  (some false)
theorem p2_c (fuel : Nat) (f34 : List T115) (fuel35 : Int) (v36 : List Int) (v37 : List Int) (v38 : List Int) (out39 : List Int) (out40 : List Int) (out41 : List Int) (names42 : List Int) (end43 : Int) (done44 : Int) (at45 : Int) (r : Bool) (h : p2 fuel f34 fuel35 v36 v37 v38 out39 out40 out41 names42 end43 done44 at45 = some r) : TW Try.prog B2 (I2 f34 fuel35 v36 v37 v38 out39 out40 out41 names42 end43 done44 at45).sl.st (Q2 f34 fuel35 v36 v37 v38 out39 out40 out41 names42 end43 done44 at45 r) := by
  unfold p2 at h
  rcases cond_cases h with ⟨h46, h⟩ | ⟨h46, h⟩
  · 
    obtain rfl := Option.some.inj h
    exact runAt_S (Q := Q2 f34 fuel35 v36 v37 v38 out39 out40 out41 names42 end43 done44 at45 _) (n := 100000) (c := (.code B2)) (K := []) (s := (I2 f34 fuel35 v36 v37 v38 out39 out40 out41 names42 end43 done44 at45).sl) (e := .normal) (t := J2_0 f34 fuel35 v36 v37 v38 out39 out40 out41 names42 end43 done44 at45 (decide (done44 < fuel35))) (l := [(0, 0), (1, 1), (2, 2), (3, 3), (4, 4), (5, 5), (6, 6), (7, 7), (8, 8)])
      (hs := [hA, .skip, .g (.env 41 (C.v (vB true))), hA])
      (ps := [C.v (vB (decide (end43 = 3))) = C.v (vB true), ((vS eT115 f34) : V) = (vS eT115 f34), (fuel35 : Int) = fuel35, 0 = 0, 0 = 0, 0 = 0, names42.length = names42.length, (end43 : Int) = end43, (done44 : Int) = done44, (at45 : Int) = at45, (decide (done44 < fuel35) : Bool) = (decide (done44 < fuel35)), (own (cs eJ v36)) = (cs eJ v36).map C.own, (own (cs eJ v37)) = (cs eJ v37).map C.own, (own (cs eJ v38)) = (cs eJ v38).map C.own, (own (cs eJ out39)) = (cs eJ out39).map C.own, (own (cs eJ out40)) = (cs eJ out40).map C.own, (own (cs eJ out41)) = (cs eJ out41).map C.own, (own (cs eJ names42)) = (cs eJ names42).map C.own, 0 = 0, v36.length = v36.length, 0 = 0, v37.length = v37.length, 0 = 0, v38.length = v38.length, 0 = 0, out39.length = out39.length, 0 = 0, out40.length = out40.length, 0 = 0, out41.length = out41.length])
      (by kernel_rfl) ⟨vbB h46, rfl, rfl, rfl, rfl, rfl, rfl, rfl, rfl, rfl, rfl, rfl, rfl, rfl, rfl, rfl, rfl, rfl, rfl, rfl, rfl, rfl, rfl, rfl, rfl, rfl, rfl, rfl, rfl, rfl, trivial⟩ (fun st hl => ⟨rfl, hl⟩)
  · 
    obtain rfl := Option.some.inj h
    exact runAt_S (Q := Q2 f34 fuel35 v36 v37 v38 out39 out40 out41 names42 end43 done44 at45 _) (n := 100000) (c := (.code B2)) (K := []) (s := (I2 f34 fuel35 v36 v37 v38 out39 out40 out41 names42 end43 done44 at45).sl) (e := .normal) (t := J2_0 f34 fuel35 v36 v37 v38 out39 out40 out41 names42 end43 done44 at45 false) (l := [(0, 0), (1, 1), (2, 2), (3, 3), (4, 4), (5, 5), (6, 6), (7, 7), (8, 8)])
      (hs := [hA, .skip, .g (.env 41 (C.v (vB false)))])
      (ps := [C.v (vB (decide (end43 = 3))) = C.v (vB false), ((vS eT115 f34) : V) = (vS eT115 f34), (fuel35 : Int) = fuel35, 0 = 0, 0 = 0, 0 = 0, names42.length = names42.length, (end43 : Int) = end43, (done44 : Int) = done44, (at45 : Int) = at45, (false : Bool) = false, (own (cs eJ v36)) = (cs eJ v36).map C.own, (own (cs eJ v37)) = (cs eJ v37).map C.own, (own (cs eJ v38)) = (cs eJ v38).map C.own, (own (cs eJ out39)) = (cs eJ out39).map C.own, (own (cs eJ out40)) = (cs eJ out40).map C.own, (own (cs eJ out41)) = (cs eJ out41).map C.own, (own (cs eJ names42)) = (cs eJ names42).map C.own, 0 = 0, v36.length = v36.length, 0 = 0, v37.length = v37.length, 0 = 0, v38.length = v38.length, 0 = 0, out39.length = out39.length, 0 = 0, out40.length = out40.length, 0 = 0, out41.length = out41.length])
      (by kernel_rfl) ⟨vbB h46, rfl, rfl, rfl, rfl, rfl, rfl, rfl, rfl, rfl, rfl, rfl, rfl, rfl, rfl, rfl, rfl, rfl, rfl, rfl, rfl, rfl, rfl, rfl, rfl, rfl, rfl, rfl, rfl, rfl, trivial⟩ (fun st hl => ⟨rfl, hl⟩)
def I3 (f52 : List T115) (fuel53 : Int) (v54 : List Int) (v55 : List Int) (v56 : List Int) (out57 : List Int) (out58 : List Int) (out59 : List Int) (names60 : List Int) (end61 : Int) (done62 : Int) (at63 : Int) (b64 : List T131) (b65 : Int) (b66 : Int) (b67 : List Int) (v68 : List T131) (v69 : Int) (v70 : Int) : TL := ⟨98, [C.dead, C.dead, C.dead], [(0, C.v (vS eT115 f52)), (2, C.v (vI .i64 fuel53)), (6, C.pr 0 0), (10, C.pr 4 0), (11, C.sr 8 0 1 names60.length), (12, C.v (vI .i64 end61)), (13, C.v (vI .i64 done62)), (14, C.v (vI .i64 at63)), (15, C.pr 9 0), (53, C.v (vS eT131 v68)), (54, C.v (vI .i64 v69)), (55, C.v (vI .i64 v70))], [(1, (cs eJ v54)), (2, (cs eJ v55)), (3, (cs eJ v56)), (5, (cs eJ out57)), (6, (cs eJ out58)), (7, (cs eJ out59)), (8, (cs eJ names60))], [(0, [C.sr 1 0 1 v54.length, C.sr 2 0 1 v55.length, C.sr 3 0 1 v56.length]), (4, [C.sr 5 0 1 out57.length, C.sr 6 0 1 out58.length, C.sr 7 0 1 out59.length]), (9, [C.v (vS eT131 b64), C.own (vI .i64 b65), C.own (vI .i64 b66), C.v (vS eJ b67)])]⟩
def J3_0 (f52 : List T115) (fuel53 : Int) (v54 : List Int) (v55 : List Int) (v56 : List Int) (end61 : Int) (done62 : Int) (at63 : Int) (b64 : List T131) (b65 : Int) (b66 : Int) (b67 : List Int) (v68 : List T131) (v69 : Int) (o : (List Int) × (List Int) × (List Int) × (List Int) × Int) : TL := ⟨98, [C.dead, C.dead, C.dead], [(0, C.v (vS eT115 f52)), (2, C.v (vI .i64 fuel53)), (6, C.pr 0 0), (10, C.pr 4 0), (11, C.sr 8 0 1 o.2.2.2.1.length), (12, C.v (vI .i64 o.2.2.2.2)), (13, C.v (vI .i64 done62)), (14, C.v (vI .i64 at63)), (15, C.pr 9 0)], [(1, (cs eJ v54)), (2, (cs eJ v55)), (3, (cs eJ v56)), (5, (cs eJ o.1)), (6, (cs eJ o.2.1)), (7, (cs eJ o.2.2.1)), (8, (cs eJ o.2.2.2.1))], [(0, [C.sr 1 0 1 v54.length, C.sr 2 0 1 v55.length, C.sr 3 0 1 v56.length]), (4, [C.sr 5 0 1 o.1.length, C.sr 6 0 1 o.2.1.length, C.sr 7 0 1 o.2.2.1.length]), (9, [C.v (vS eT131 b64), C.own (vI .i64 b65), C.own (vI .i64 b66), C.v (vS eJ b67)])]⟩
def Q3 (f52 : List T115) (fuel53 : Int) (v54 : List Int) (v55 : List Int) (v56 : List Int) (end61 : Int) (done62 : Int) (at63 : Int) (b64 : List T131) (b65 : Int) (b66 : Int) (b67 : List Int) (v68 : List T131) (v69 : Int) (r : (List Int) × (List Int) × (List Int) × (List Int) × Int) (e : Exit) (st : St) : Prop := (fun o => e = (.exit 2) ∧ Le st (J3_0 f52 fuel53 v54 v55 v56 end61 done62 at63 b64 b65 b66 b67 v68 v69 o).sl.st) r
def p3 (fuel : Nat) (f52 : List T115) (fuel53 : Int) (v54 : List Int) (v55 : List Int) (v56 : List Int) (end61 : Int) (done62 : Int) (at63 : Int) (b64 : List T131) (b65 : Int) (b66 : Int) (b67 : List Int) (v68 : List T131) (v69 : Int) : Nat → (List Int) → (List Int) → (List Int) → (List Int) → Int → Option ((List Int) × (List Int) × (List Int) × (List Int) × Int)
  | 0, _, _, _, _, _ => none
  | n + 1, out57, out58, out59, names60, v70 =>
    cond (decide (v70 < v69))
    ((idx v70 v68.length).bind fun j72 =>
      (F99.fn fuel (⟨out57, out58, out59⟩ : T44) (v68.getD j72 (default : T131)) names60).bind fun r74 =>
      (chk (r74.2.2.length = names60.length)).bind fun _ =>
      cond (!r74.1)
      (some (r74.2.1.f0, r74.2.1.f1, r74.2.1.f2, r74.2.2, (2 : Int)))
      (p3 fuel f52 fuel53 v54 v55 v56 end61 done62 at63 b64 b65 b66 b67 v68 v69 n r74.2.1.f0 r74.2.1.f1 r74.2.1.f2 r74.2.2 (w64 (v70 + 1))))
    (some (out57, out58, out59, names60, end61))
theorem p3_c (fuel : Nat) (f52 : List T115) (fuel53 : Int) (v54 : List Int) (v55 : List Int) (v56 : List Int) (end61 : Int) (done62 : Int) (at63 : Int) (b64 : List T131) (b65 : Int) (b66 : Int) (b67 : List Int) (v68 : List T131) (v69 : Int) (n : Nat) (out57 : List Int) (out58 : List Int) (out59 : List Int) (names60 : List Int) (v70 : Int) (r : (List Int) × (List Int) × (List Int) × (List Int) × Int) (h : p3 fuel f52 fuel53 v54 v55 v56 end61 done62 at63 b64 b65 b66 b67 v68 v69 n out57 out58 out59 names60 v70 = some r) : TW Try.prog (.loop L3) (I3 f52 fuel53 v54 v55 v56 out57 out58 out59 names60 end61 done62 at63 b64 b65 b66 b67 v68 v69 v70).sl.st (Q3 f52 fuel53 v54 v55 v56 end61 done62 at63 b64 b65 b66 b67 v68 v69 r) := by
  refine loop_run (σ := (List Int) × (List Int) × (List Int) × (List Int) × Int) (fun x => I3 f52 fuel53 v54 v55 v56 x.1 x.2.1 x.2.2.1 x.2.2.2.1 end61 done62 at63 b64 b65 b66 b67 v68 v69 x.2.2.2.2) (fun n x => p3 fuel f52 fuel53 v54 v55 v56 end61 done62 at63 b64 b65 b66 b67 v68 v69 n x.1 x.2.1 x.2.2.1 x.2.2.2.1 x.2.2.2.2) (Q3 f52 fuel53 v54 v55 v56 end61 done62 at63 b64 b65 b66 b67 v68 v69) ?_ (fun _ => rfl) (x := (out57, out58, out59, names60, v70)) h
  clear h
  rintro n ⟨out57, out58, out59, names60, v70⟩ r h
  replace h : p3 fuel f52 fuel53 v54 v55 v56 end61 done62 at63 b64 b65 b66 b67 v68 v69 (n + 1) out57 out58 out59 names60 v70 = some r := h
  rw [p3] at h
  rcases cond_cases h with ⟨h71, h⟩ | ⟨h71, h⟩
  · 
    obtain ⟨j72, h73, h⟩ := bind_cases h
    obtain ⟨r74, h75, h⟩ := bind_cases h
    obtain ⟨_, h76, h⟩ := bind_cases h
    rcases cond_cases h with ⟨h77, h⟩ | ⟨h77, h⟩
    · 
      obtain rfl := Option.some.inj h
      exact runAt_S (Q := Round _ (n + 1) _) (n := 100000) (c := (.code L3)) (K := []) (s := (I3 f52 fuel53 v54 v55 v56 out57 out58 out59 names60 end61 done62 at63 b64 b65 b66 b67 v68 v69 v70).sl) (e := (.exit 2)) (t := J3_0 f52 fuel53 v54 v55 v56 end61 done62 at63 b64 b65 b66 b67 v68 v69 (r74.2.1.f0, r74.2.1.f1, r74.2.1.f2, r74.2.2, (2 : Int))) (l := [(0, 0), (1, 1), (2, 2), (3, 3), (4, 4), (5, 11), (6, 12), (7, 13), (8, 8), (9, 9)])
        (hs := [hA, .g (.env 56 (C.v (vB true))), .h (.idv j72 (eT131.f (v68.getD j72 (default : T131)) ++ (cs eT131 (v68.drop (j72 + 1))))), hA, .h (.new 10), hA, hA, .call ⟨[(.io none), .ro, (.io none)], 9, [(5, (cs eJ out57), (cs eJ out57)), (6, (cs eJ out58), (cs eJ out58)), (7, (cs eJ out59), (cs eJ out59)), (8, (cs eJ names60), (cs eJ names60))], true, [(.bx (eT44.f r74.2.1)), (vS eJ r74.2.2)], (vB r74.1), [[C.own (vS eJ r74.2.1.f0), C.own (vS eJ r74.2.1.f1), C.own (vS eJ r74.2.1.f2)], (own (cs eJ r74.2.2))], 11⟩, .g (.opn 4 0 11), .g (.opn 4 1 12), .g (.opn 4 2 13), hA, .g (.env 62 (C.v (vB true)))])
        (ps := [C.v (vB (decide (v70 < v69))) = C.v (vB true), v70 = (j72 : Int), j72 < v68.length, (cs eT131 v68).drop (j72 * 6) = (eT131.f (v68.getD j72 (default : T131)) ++ (cs eT131 (v68.drop (j72 + 1)))), cs eT131 v68 ≠ [], CallOK Try.prog 99 [.io (.bx [(.sl 1 out57.length (cs eJ out57)), (.sl 1 out58.length (cs eJ out58)), (.sl 1 out59.length (cs eJ out59))]), .ro (.ag [(vI .i64 ((v68.getD j72 (default : T131)).f0)), (vI .i64 ((v68.getD j72 (default : T131)).f1)), (vI .i64 ((v68.getD j72 (default : T131)).f2)), (vI .i64 ((v68.getD j72 (default : T131)).f3)), (vI .i64 ((v68.getD j72 (default : T131)).f4)), (vI .i64 ((v68.getD j72 (default : T131)).f5))]), .io (.sl 1 names60.length (cs eJ names60))] [(.bx (eT44.f r74.2.1)), (vS eJ r74.2.2)] (vB r74.1), (own (cs eJ out57)) = (cs eJ out57).map C.own, 0 + out57.length * 1 ≤ (cs eJ out57).length, ((cs eJ out57).drop (0)).take (out57.length * 1) = (cs eJ out57), (own (cs eJ out58)) = (cs eJ out58).map C.own, 0 + out58.length * 1 ≤ (cs eJ out58).length, ((cs eJ out58).drop (0)).take (out58.length * 1) = (cs eJ out58), (own (cs eJ out59)) = (cs eJ out59).map C.own, 0 + out59.length * 1 ≤ (cs eJ out59).length, ((cs eJ out59).drop (0)).take (out59.length * 1) = (cs eJ out59), (own (cs eJ names60)) = (cs eJ names60).map C.own, 0 + names60.length * 1 ≤ (own (cs eJ names60)).length, ((cs eJ names60).drop (0)).take (names60.length * 1) = (cs eJ names60), ((eT44.f r74.2.1) : List V).length = 3, ((eT44.f r74.2.1) : List V).length = 3 ∨ ([C.sr 5 0 1 out57.length, C.sr 6 0 1 out58.length, C.sr 7 0 1 out59.length] : List C).length ≤ 0 + 3, ([C.sr 5 0 1 out57.length, C.sr 6 0 1 out58.length, C.sr 7 0 1 out59.length] : List C).take 0 ++ ((eT44.f r74.2.1) : List V).map C.own ++ ([C.sr 5 0 1 out57.length, C.sr 6 0 1 out58.length, C.sr 7 0 1 out59.length] : List C).drop (0 + 3) = [C.own (vS eJ r74.2.1.f0), C.own (vS eJ r74.2.1.f1), C.own (vS eJ r74.2.1.f2)], (cs eJ r74.2.2).length = (own (cs eJ names60)).length - 0 ∨ (own (cs eJ names60)).length ≤ 0 + ((own (cs eJ names60)).length - 0), (own (cs eJ names60)).take 0 ++ (cs eJ r74.2.2).map C.own ++ (own (cs eJ names60)).drop (0 + ((own (cs eJ names60)).length - 0)) = (own (cs eJ r74.2.2)), C.v (vB (!r74.1)) = C.v (vB true), ((vS eT115 f52) : V) = (vS eT115 f52), (fuel53 : Int) = fuel53, 0 = 0, 0 = 0, 0 = 0, names60.length = r74.2.2.length, (2 : Int) = (2 : Int), (done62 : Int) = done62, (at63 : Int) = at63, 0 = 0, (own (cs eJ v54)) = (cs eJ v54).map C.own, (own (cs eJ v55)) = (cs eJ v55).map C.own, (own (cs eJ v56)) = (cs eJ v56).map C.own, (own (cs eJ r74.2.1.f0)) = (cs eJ r74.2.1.f0).map C.own, (own (cs eJ r74.2.1.f1)) = (cs eJ r74.2.1.f1).map C.own, (own (cs eJ r74.2.1.f2)) = (cs eJ r74.2.1.f2).map C.own, (own (cs eJ r74.2.2)) = (cs eJ r74.2.2).map C.own, 0 = 0, v54.length = v54.length, 0 = 0, v55.length = v55.length, 0 = 0, v56.length = v56.length, 0 = 0, r74.2.1.f0.length = r74.2.1.f0.length, 0 = 0, r74.2.1.f1.length = r74.2.1.f1.length, 0 = 0, r74.2.1.f2.length = r74.2.1.f2.length, ((vS eT131 b64) : V) = (vS eT131 b64), (b65 : Int) = b65, (b66 : Int) = b66, ((vS eJ b67) : V) = (vS eJ b67)])
        (by kernel_rfl) ⟨vbB h71, (idx_S h73).1, (idx_S h73).2, cs_from (e := eT131) (d := (default : T131)) (idx_S h73).2, cs_ne (e := eT131) (idx_S h73).2 (by decide), F99.fn_c fuel (⟨out57, out58, out59⟩ : T44) (v68.getD j72 (default : T131)) names60 _ h75, rfl, len_all (e := eJ) (rfl), take_cs (e := eJ) (rfl), rfl, len_all (e := eJ) (rfl), take_cs (e := eJ) (rfl), rfl, len_all (e := eJ) (rfl), take_cs (e := eJ) (rfl), rfl, by rw [own_length]; exact len_all (e := eJ) (rfl), take_cs (e := eJ) (rfl), rfl, .inl rfl, rfl, .inr (len_back _), back_all _ _, vbB h77, rfl, rfl, rfl, rfl, rfl, ((chk_S h76)).symm, rfl, rfl, rfl, rfl, rfl, rfl, rfl, rfl, rfl, rfl, rfl, rfl, rfl, rfl, rfl, rfl, rfl, rfl, rfl, rfl, rfl, rfl, rfl, rfl, rfl, rfl, rfl, trivial⟩ (fun st hl => ⟨rfl, hl⟩)
    · 
      exact runAt_S (Q := Round _ (n + 1) _) (n := 100000) (c := (.code L3)) (K := []) (s := (I3 f52 fuel53 v54 v55 v56 out57 out58 out59 names60 end61 done62 at63 b64 b65 b66 b67 v68 v69 v70).sl) (e := .normal) (t := I3 f52 fuel53 v54 v55 v56 r74.2.1.f0 r74.2.1.f1 r74.2.1.f2 r74.2.2 end61 done62 at63 b64 b65 b66 b67 v68 v69 (w64 (v70 + 1))) (l := [(0, 0), (1, 1), (2, 2), (3, 3), (4, 4), (5, 11), (6, 12), (7, 13), (8, 8), (9, 9)])
        (hs := [hA, .g (.env 56 (C.v (vB true))), .h (.idv j72 (eT131.f (v68.getD j72 (default : T131)) ++ (cs eT131 (v68.drop (j72 + 1))))), hA, .h (.new 10), hA, hA, .call ⟨[(.io none), .ro, (.io none)], 9, [(5, (cs eJ out57), (cs eJ out57)), (6, (cs eJ out58), (cs eJ out58)), (7, (cs eJ out59), (cs eJ out59)), (8, (cs eJ names60), (cs eJ names60))], true, [(.bx (eT44.f r74.2.1)), (vS eJ r74.2.2)], (vB r74.1), [[C.own (vS eJ r74.2.1.f0), C.own (vS eJ r74.2.1.f1), C.own (vS eJ r74.2.1.f2)], (own (cs eJ r74.2.2))], 11⟩, .g (.opn 4 0 11), .g (.opn 4 1 12), .g (.opn 4 2 13), hA, .g (.env 62 (C.v (vB false))), hA])
        (ps := [C.v (vB (decide (v70 < v69))) = C.v (vB true), v70 = (j72 : Int), j72 < v68.length, (cs eT131 v68).drop (j72 * 6) = (eT131.f (v68.getD j72 (default : T131)) ++ (cs eT131 (v68.drop (j72 + 1)))), cs eT131 v68 ≠ [], CallOK Try.prog 99 [.io (.bx [(.sl 1 out57.length (cs eJ out57)), (.sl 1 out58.length (cs eJ out58)), (.sl 1 out59.length (cs eJ out59))]), .ro (.ag [(vI .i64 ((v68.getD j72 (default : T131)).f0)), (vI .i64 ((v68.getD j72 (default : T131)).f1)), (vI .i64 ((v68.getD j72 (default : T131)).f2)), (vI .i64 ((v68.getD j72 (default : T131)).f3)), (vI .i64 ((v68.getD j72 (default : T131)).f4)), (vI .i64 ((v68.getD j72 (default : T131)).f5))]), .io (.sl 1 names60.length (cs eJ names60))] [(.bx (eT44.f r74.2.1)), (vS eJ r74.2.2)] (vB r74.1), (own (cs eJ out57)) = (cs eJ out57).map C.own, 0 + out57.length * 1 ≤ (cs eJ out57).length, ((cs eJ out57).drop (0)).take (out57.length * 1) = (cs eJ out57), (own (cs eJ out58)) = (cs eJ out58).map C.own, 0 + out58.length * 1 ≤ (cs eJ out58).length, ((cs eJ out58).drop (0)).take (out58.length * 1) = (cs eJ out58), (own (cs eJ out59)) = (cs eJ out59).map C.own, 0 + out59.length * 1 ≤ (cs eJ out59).length, ((cs eJ out59).drop (0)).take (out59.length * 1) = (cs eJ out59), (own (cs eJ names60)) = (cs eJ names60).map C.own, 0 + names60.length * 1 ≤ (own (cs eJ names60)).length, ((cs eJ names60).drop (0)).take (names60.length * 1) = (cs eJ names60), ((eT44.f r74.2.1) : List V).length = 3, ((eT44.f r74.2.1) : List V).length = 3 ∨ ([C.sr 5 0 1 out57.length, C.sr 6 0 1 out58.length, C.sr 7 0 1 out59.length] : List C).length ≤ 0 + 3, ([C.sr 5 0 1 out57.length, C.sr 6 0 1 out58.length, C.sr 7 0 1 out59.length] : List C).take 0 ++ ((eT44.f r74.2.1) : List V).map C.own ++ ([C.sr 5 0 1 out57.length, C.sr 6 0 1 out58.length, C.sr 7 0 1 out59.length] : List C).drop (0 + 3) = [C.own (vS eJ r74.2.1.f0), C.own (vS eJ r74.2.1.f1), C.own (vS eJ r74.2.1.f2)], (cs eJ r74.2.2).length = (own (cs eJ names60)).length - 0 ∨ (own (cs eJ names60)).length ≤ 0 + ((own (cs eJ names60)).length - 0), (own (cs eJ names60)).take 0 ++ (cs eJ r74.2.2).map C.own ++ (own (cs eJ names60)).drop (0 + ((own (cs eJ names60)).length - 0)) = (own (cs eJ r74.2.2)), C.v (vB (!r74.1)) = C.v (vB false), ((vS eT115 f52) : V) = (vS eT115 f52), (fuel53 : Int) = fuel53, 0 = 0, 0 = 0, 0 = 0, names60.length = r74.2.2.length, (end61 : Int) = end61, (done62 : Int) = done62, (at63 : Int) = at63, 0 = 0, ((vS eT131 v68) : V) = (vS eT131 v68), (v69 : Int) = v69, (w64 (v70 + 1) : Int) = (w64 (v70 + 1)), (own (cs eJ v54)) = (cs eJ v54).map C.own, (own (cs eJ v55)) = (cs eJ v55).map C.own, (own (cs eJ v56)) = (cs eJ v56).map C.own, (own (cs eJ r74.2.1.f0)) = (cs eJ r74.2.1.f0).map C.own, (own (cs eJ r74.2.1.f1)) = (cs eJ r74.2.1.f1).map C.own, (own (cs eJ r74.2.1.f2)) = (cs eJ r74.2.1.f2).map C.own, (own (cs eJ r74.2.2)) = (cs eJ r74.2.2).map C.own, 0 = 0, v54.length = v54.length, 0 = 0, v55.length = v55.length, 0 = 0, v56.length = v56.length, 0 = 0, r74.2.1.f0.length = r74.2.1.f0.length, 0 = 0, r74.2.1.f1.length = r74.2.1.f1.length, 0 = 0, r74.2.1.f2.length = r74.2.1.f2.length, ((vS eT131 b64) : V) = (vS eT131 b64), (b65 : Int) = b65, (b66 : Int) = b66, ((vS eJ b67) : V) = (vS eJ b67)])
        (by kernel_rfl) ⟨vbB h71, (idx_S h73).1, (idx_S h73).2, cs_from (e := eT131) (d := (default : T131)) (idx_S h73).2, cs_ne (e := eT131) (idx_S h73).2 (by decide), F99.fn_c fuel (⟨out57, out58, out59⟩ : T44) (v68.getD j72 (default : T131)) names60 _ h75, rfl, len_all (e := eJ) (rfl), take_cs (e := eJ) (rfl), rfl, len_all (e := eJ) (rfl), take_cs (e := eJ) (rfl), rfl, len_all (e := eJ) (rfl), take_cs (e := eJ) (rfl), rfl, by rw [own_length]; exact len_all (e := eJ) (rfl), take_cs (e := eJ) (rfl), rfl, .inl rfl, rfl, .inr (len_back _), back_all _ _, vbB h77, rfl, rfl, rfl, rfl, rfl, ((chk_S h76)).symm, rfl, rfl, rfl, rfl, rfl, rfl, rfl, rfl, rfl, rfl, rfl, rfl, rfl, rfl, rfl, rfl, rfl, rfl, rfl, rfl, rfl, rfl, rfl, rfl, rfl, rfl, rfl, rfl, rfl, rfl, trivial⟩ (fun st hl => ⟨n, _, Nat.lt_succ_self n, hl, (r74.2.1.f0, r74.2.1.f1, r74.2.1.f2, r74.2.2, w64 (v70 + 1)), rfl, rfl, h⟩)
  · 
    obtain rfl := Option.some.inj h
    exact runAt_S (Q := Round _ (n + 1) _) (n := 100000) (c := (.code L3)) (K := []) (s := (I3 f52 fuel53 v54 v55 v56 out57 out58 out59 names60 end61 done62 at63 b64 b65 b66 b67 v68 v69 v70).sl) (e := (.exit 2)) (t := J3_0 f52 fuel53 v54 v55 v56 end61 done62 at63 b64 b65 b66 b67 v68 v69 (out57, out58, out59, names60, end61)) (l := [(0, 0), (1, 1), (2, 2), (3, 3), (4, 4), (5, 5), (6, 6), (7, 7), (8, 8), (9, 9)])
      (hs := [hA, .g (.env 56 (C.v (vB false)))])
      (ps := [C.v (vB (decide (v70 < v69))) = C.v (vB false), ((vS eT115 f52) : V) = (vS eT115 f52), (fuel53 : Int) = fuel53, 0 = 0, 0 = 0, 0 = 0, names60.length = names60.length, (end61 : Int) = end61, (done62 : Int) = done62, (at63 : Int) = at63, 0 = 0, (own (cs eJ v54)) = (cs eJ v54).map C.own, (own (cs eJ v55)) = (cs eJ v55).map C.own, (own (cs eJ v56)) = (cs eJ v56).map C.own, (own (cs eJ out57)) = (cs eJ out57).map C.own, (own (cs eJ out58)) = (cs eJ out58).map C.own, (own (cs eJ out59)) = (cs eJ out59).map C.own, (own (cs eJ names60)) = (cs eJ names60).map C.own, 0 = 0, v54.length = v54.length, 0 = 0, v55.length = v55.length, 0 = 0, v56.length = v56.length, 0 = 0, out57.length = out57.length, 0 = 0, out58.length = out58.length, 0 = 0, out59.length = out59.length, ((vS eT131 b64) : V) = (vS eT131 b64), (b65 : Int) = b65, (b66 : Int) = b66, ((vS eJ b67) : V) = (vS eJ b67)])
      (by kernel_rfl) ⟨vbB h71, rfl, rfl, rfl, rfl, rfl, rfl, rfl, rfl, rfl, rfl, rfl, rfl, rfl, rfl, rfl, rfl, rfl, rfl, rfl, rfl, rfl, rfl, rfl, rfl, rfl, rfl, rfl, rfl, rfl, rfl, rfl, rfl, rfl, trivial⟩ (fun st hl => ⟨rfl, hl⟩)
def I1 (f22 : List T115) (fuel23 : Int) (v24 : List Int) (v25 : List Int) (v26 : List Int) (out27 : List Int) (out28 : List Int) (out29 : List Int) (names30 : List Int) (end31 : Int) (done32 : Int) (at33 : Int) : TL := ⟨98, [C.dead, C.dead, C.dead], [(0, C.v (vS eT115 f22)), (2, C.v (vI .i64 fuel23)), (6, C.pr 0 0), (10, C.pr 4 0), (11, C.sr 8 0 1 names30.length), (12, C.v (vI .i64 end31)), (13, C.v (vI .i64 done32)), (14, C.v (vI .i64 at33))], [(1, (cs eJ v24)), (2, (cs eJ v25)), (3, (cs eJ v26)), (5, (cs eJ out27)), (6, (cs eJ out28)), (7, (cs eJ out29)), (8, (cs eJ names30))], [(0, [C.sr 1 0 1 v24.length, C.sr 2 0 1 v25.length, C.sr 3 0 1 v26.length]), (4, [C.sr 5 0 1 out27.length, C.sr 6 0 1 out28.length, C.sr 7 0 1 out29.length])]⟩
def J1_0 (f22 : List T115) (fuel23 : Int) (v24 : List Int) (v25 : List Int) (v26 : List Int) (o : (List Int) × (List Int) × (List Int) × (List Int) × Int × Int) : TL := ⟨98, [C.dead, C.dead, C.dead], [(6, C.pr 0 0), (10, C.pr 4 0), (11, C.sr 8 0 1 o.2.2.2.1.length), (12, C.v (vI .i64 o.2.2.2.2.1)), (13, C.v (vI .i64 o.2.2.2.2.2))], [(1, (cs eJ v24)), (2, (cs eJ v25)), (3, (cs eJ v26)), (5, (cs eJ o.1)), (6, (cs eJ o.2.1)), (7, (cs eJ o.2.2.1)), (8, (cs eJ o.2.2.2.1))], [(0, [C.sr 1 0 1 v24.length, C.sr 2 0 1 v25.length, C.sr 3 0 1 v26.length]), (4, [C.sr 5 0 1 o.1.length, C.sr 6 0 1 o.2.1.length, C.sr 7 0 1 o.2.2.1.length])]⟩
def Q1 (f22 : List T115) (fuel23 : Int) (v24 : List Int) (v25 : List Int) (v26 : List Int) (r : (List Int) × (List Int) × (List Int) × (List Int) × Int × Int) (e : Exit) (st : St) : Prop := (fun o => e = (.exit 0) ∧ Le st (J1_0 f22 fuel23 v24 v25 v26 o).sl.st) r
def p1 (fuel : Nat) (f22 : List T115) (fuel23 : Int) (v24 : List Int) (v25 : List Int) (v26 : List Int) : Nat → (List Int) → (List Int) → (List Int) → (List Int) → Int → Int → Int → Option ((List Int) × (List Int) × (List Int) × (List Int) × Int × Int)
  | 0, _, _, _, _, _, _, _ => none
  | n + 1, out27, out28, out29, names30, end31, done32, at33 =>
    (p2 fuel f22 fuel23 v24 v25 v26 out27 out28 out29 names30 end31 done32 at33).bind fun r47 =>
    cond (r47)
    ((idx at33 f22.length).bind fun j50 =>
      (p3 fuel f22 fuel23 v24 v25 v26 end31 done32 at33 ((f22.getD j50 (default : T115)).f0) ((f22.getD j50 (default : T115)).f1) ((f22.getD j50 (default : T115)).f2) ((f22.getD j50 (default : T115)).f3) ((f22.getD j50 (default : T115)).f0) (((f22.getD j50 (default : T115)).f0).length : Int) fuel out27 out28 out29 names30 (0 : Int)).bind fun r78 =>
      cond (decide (r78.2.2.2.2 = 2))
      (p1 fuel f22 fuel23 v24 v25 v26 n r78.1 r78.2.1 r78.2.2.1 r78.2.2.2.1 r78.2.2.2.2 (w64 (done32 + 1)) at33)
      (cond (decide ((f22.getD j50 (default : T115)).f1 = 3))
        (p1 fuel f22 fuel23 v24 v25 v26 n r78.1 r78.2.1 r78.2.2.1 r78.2.2.2.1 (1 : Int) (w64 (done32 + 1)) at33)
        (cond (decide ((f22.getD j50 (default : T115)).f1 = 4))
          (p1 fuel f22 fuel23 v24 v25 v26 n r78.1 r78.2.1 r78.2.2.1 r78.2.2.2.1 (2 : Int) (w64 (done32 + 1)) at33)
          ((idx ((f22.getD j50 (default : T115)).f2) r78.2.2.2.1.length).bind fun j83 =>
            (F100.fn fuel ((f22.getD j50 (default : T115)).f1) (r78.2.2.2.1.getD j83 (0 : Int)) (((f22.getD j50 (default : T115)).f3).length : Int)).bind fun r85 =>
            (idx r85 (((f22.getD j50 (default : T115)).f3).length)).bind fun j87 =>
            p1 fuel f22 fuel23 v24 v25 v26 n r78.1 r78.2.1 r78.2.2.1 r78.2.2.2.1 r78.2.2.2.2 (w64 (done32 + 1)) (((f22.getD j50 (default : T115)).f3).getD j87 (0 : Int))))))
    (some (out27, out28, out29, names30, end31, done32))
theorem p1_c (fuel : Nat) (f22 : List T115) (fuel23 : Int) (v24 : List Int) (v25 : List Int) (v26 : List Int) (n : Nat) (out27 : List Int) (out28 : List Int) (out29 : List Int) (names30 : List Int) (end31 : Int) (done32 : Int) (at33 : Int) (r : (List Int) × (List Int) × (List Int) × (List Int) × Int × Int) (h : p1 fuel f22 fuel23 v24 v25 v26 n out27 out28 out29 names30 end31 done32 at33 = some r) : TW Try.prog (.loop L1) (I1 f22 fuel23 v24 v25 v26 out27 out28 out29 names30 end31 done32 at33).sl.st (Q1 f22 fuel23 v24 v25 v26 r) := by
  refine loop_run (σ := (List Int) × (List Int) × (List Int) × (List Int) × Int × Int × Int) (fun x => I1 f22 fuel23 v24 v25 v26 x.1 x.2.1 x.2.2.1 x.2.2.2.1 x.2.2.2.2.1 x.2.2.2.2.2.1 x.2.2.2.2.2.2) (fun n x => p1 fuel f22 fuel23 v24 v25 v26 n x.1 x.2.1 x.2.2.1 x.2.2.2.1 x.2.2.2.2.1 x.2.2.2.2.2.1 x.2.2.2.2.2.2) (Q1 f22 fuel23 v24 v25 v26) ?_ (fun _ => rfl) (x := (out27, out28, out29, names30, end31, done32, at33)) h
  clear h
  rintro n ⟨out27, out28, out29, names30, end31, done32, at33⟩ r h
  replace h : p1 fuel f22 fuel23 v24 v25 v26 (n + 1) out27 out28 out29 names30 end31 done32 at33 = some r := h
  rw [p1] at h
  obtain ⟨r47, h48, h⟩ := bind_cases h
  refine runTo_S (n := 2) (c := (.code L1)) (K := []) (s := (I1 f22 fuel23 v24 v25 v26 out27 out28 out29 names30 end31 done32 at33).sl) (b := (.code B2)) (K1 := K2) (t := I2 f22 fuel23 v24 v25 v26 out27 out28 out29 names30 end31 done32 at33) (l := [(0, 0), (1, 1), (2, 2), (3, 3), (4, 4), (5, 5), (6, 6), (7, 7), (8, 8)])
    (hs := [])
    (ps := [((vS eT115 f22) : V) = (vS eT115 f22), (fuel23 : Int) = fuel23, 0 = 0, 0 = 0, 0 = 0, names30.length = names30.length, (end31 : Int) = end31, (done32 : Int) = done32, (at33 : Int) = at33, (own (cs eJ v24)) = (cs eJ v24).map C.own, (own (cs eJ v25)) = (cs eJ v25).map C.own, (own (cs eJ v26)) = (cs eJ v26).map C.own, (own (cs eJ out27)) = (cs eJ out27).map C.own, (own (cs eJ out28)) = (cs eJ out28).map C.own, (own (cs eJ out29)) = (cs eJ out29).map C.own, (own (cs eJ names30)) = (cs eJ names30).map C.own, 0 = 0, v24.length = v24.length, 0 = 0, v25.length = v25.length, 0 = 0, v26.length = v26.length, 0 = 0, out27.length = out27.length, 0 = 0, out28.length = out28.length, 0 = 0, out29.length = out29.length])
    (by kernel_rfl) ⟨rfl, rfl, rfl, rfl, rfl, rfl, rfl, rfl, rfl, rfl, rfl, rfl, rfl, rfl, rfl, rfl, rfl, rfl, rfl, rfl, rfl, rfl, rfl, rfl, rfl, rfl, rfl, rfl, trivial⟩ (cut_code ?_)
  refine TW.mono_le (p2_c fuel f22 fuel23 v24 v25 v26 out27 out28 out29 names30 end31 done32 at33 _ h48) ?_
  rintro e st hq
  obtain ⟨rfl, hl⟩ := hq
  refine ⟨_, hl, ?_⟩
  rcases cond_cases h with ⟨h49, h⟩ | ⟨h49, h⟩
  · 
    obtain ⟨j50, h51, h⟩ := bind_cases h
    obtain ⟨r78, h79, h⟩ := bind_cases h
    refine runTo_S (n := 100000) (c := (.out .normal)) (K := K2) (s := (J2_0 f22 fuel23 v24 v25 v26 out27 out28 out29 names30 end31 done32 at33 r47).sl) (b := (.code (.loop L3))) (K1 := K3) (t := I3 f22 fuel23 v24 v25 v26 out27 out28 out29 names30 end31 done32 at33 ((f22.getD j50 (default : T115)).f0) ((f22.getD j50 (default : T115)).f1) ((f22.getD j50 (default : T115)).f2) ((f22.getD j50 (default : T115)).f3) ((f22.getD j50 (default : T115)).f0) (((f22.getD j50 (default : T115)).f0).length : Int) (0 : Int)) (l := [(0, 0), (1, 1), (2, 2), (3, 3), (4, 4), (5, 5), (6, 6), (7, 7), (8, 8), (9, 9)])
      (hs := [.g (.env 45 (C.v (vB true))), .h (.idv j50 (eT115.f (f22.getD j50 (default : T115)) ++ (cs eT115 (f22.drop (j50 + 1))))), hA, .h (.new 9), hA, hA, hA])
      (ps := [C.v (vB r47) = C.v (vB true), at33 = (j50 : Int), j50 < f22.length, (cs eT115 f22).drop (j50 * 4) = (eT115.f (f22.getD j50 (default : T115)) ++ (cs eT115 (f22.drop (j50 + 1)))), cs eT115 f22 ≠ [], ((vS eT115 f22) : V) = (vS eT115 f22), (fuel23 : Int) = fuel23, 0 = 0, 0 = 0, 0 = 0, names30.length = names30.length, (end31 : Int) = end31, (done32 : Int) = done32, (at33 : Int) = at33, 0 = 0, ((vS eT131 ((f22.getD j50 (default : T115)).f0)) : V) = (vS eT131 ((f22.getD j50 (default : T115)).f0)), ((((f22.getD j50 (default : T115)).f0).length : Int) : Int) = (((f22.getD j50 (default : T115)).f0).length : Int), (0 : Int) = (0 : Int), (own (cs eJ v24)) = (cs eJ v24).map C.own, (own (cs eJ v25)) = (cs eJ v25).map C.own, (own (cs eJ v26)) = (cs eJ v26).map C.own, (own (cs eJ out27)) = (cs eJ out27).map C.own, (own (cs eJ out28)) = (cs eJ out28).map C.own, (own (cs eJ out29)) = (cs eJ out29).map C.own, (own (cs eJ names30)) = (cs eJ names30).map C.own, 0 = 0, v24.length = v24.length, 0 = 0, v25.length = v25.length, 0 = 0, v26.length = v26.length, 0 = 0, out27.length = out27.length, 0 = 0, out28.length = out28.length, 0 = 0, out29.length = out29.length, ((vS eT131 ((f22.getD j50 (default : T115)).f0)) : V) = (vS eT131 ((f22.getD j50 (default : T115)).f0)), ((f22.getD j50 (default : T115)).f1 : Int) = ((f22.getD j50 (default : T115)).f1), ((f22.getD j50 (default : T115)).f2 : Int) = ((f22.getD j50 (default : T115)).f2), ((vS eJ ((f22.getD j50 (default : T115)).f3)) : V) = (vS eJ ((f22.getD j50 (default : T115)).f3))])
      (by kernel_rfl) ⟨vbB h49, (idx_S h51).1, (idx_S h51).2, cs_from (e := eT115) (d := (default : T115)) (idx_S h51).2, cs_ne (e := eT115) (idx_S h51).2 (by decide), rfl, rfl, rfl, rfl, rfl, rfl, rfl, rfl, rfl, rfl, rfl, rfl, rfl, rfl, rfl, rfl, rfl, rfl, rfl, rfl, rfl, rfl, rfl, rfl, rfl, rfl, rfl, rfl, rfl, rfl, rfl, rfl, rfl, rfl, rfl, rfl, trivial⟩ (cut_code ?_)
    refine TW.mono_le (p3_c fuel f22 fuel23 v24 v25 v26 end31 done32 at33 ((f22.getD j50 (default : T115)).f0) ((f22.getD j50 (default : T115)).f1) ((f22.getD j50 (default : T115)).f2) ((f22.getD j50 (default : T115)).f3) ((f22.getD j50 (default : T115)).f0) (((f22.getD j50 (default : T115)).f0).length : Int) fuel out27 out28 out29 names30 (0 : Int) _ h79) ?_
    rintro e st hq
    obtain ⟨rfl, hl⟩ := hq
    refine ⟨_, hl, ?_⟩
    rcases cond_cases h with ⟨h80, h⟩ | ⟨h80, h⟩
    · 
      exact runAt_S (Q := Round _ (n + 1) _) (n := 100000) (c := (.out (.exit 2))) (K := K3) (s := (J3_0 f22 fuel23 v24 v25 v26 end31 done32 at33 ((f22.getD j50 (default : T115)).f0) ((f22.getD j50 (default : T115)).f1) ((f22.getD j50 (default : T115)).f2) ((f22.getD j50 (default : T115)).f3) ((f22.getD j50 (default : T115)).f0) (((f22.getD j50 (default : T115)).f0).length : Int) r78).sl) (e := .normal) (t := I1 f22 fuel23 v24 v25 v26 r78.1 r78.2.1 r78.2.2.1 r78.2.2.2.1 r78.2.2.2.2 (w64 (done32 + 1)) at33) (l := [(0, 0), (1, 1), (2, 2), (3, 3), (4, 4), (5, 5), (6, 6), (7, 7), (8, 8)])
        (hs := [hA, .skip, .g (.env 79 (C.v (vB true))), hA])
        (ps := [C.v (vB (decide (r78.2.2.2.2 = 2))) = C.v (vB true), ((vS eT115 f22) : V) = (vS eT115 f22), (fuel23 : Int) = fuel23, 0 = 0, 0 = 0, 0 = 0, r78.2.2.2.1.length = r78.2.2.2.1.length, (r78.2.2.2.2 : Int) = r78.2.2.2.2, (w64 (done32 + 1) : Int) = (w64 (done32 + 1)), (at33 : Int) = at33, (own (cs eJ v24)) = (cs eJ v24).map C.own, (own (cs eJ v25)) = (cs eJ v25).map C.own, (own (cs eJ v26)) = (cs eJ v26).map C.own, (own (cs eJ r78.1)) = (cs eJ r78.1).map C.own, (own (cs eJ r78.2.1)) = (cs eJ r78.2.1).map C.own, (own (cs eJ r78.2.2.1)) = (cs eJ r78.2.2.1).map C.own, (own (cs eJ r78.2.2.2.1)) = (cs eJ r78.2.2.2.1).map C.own, 0 = 0, v24.length = v24.length, 0 = 0, v25.length = v25.length, 0 = 0, v26.length = v26.length, 0 = 0, r78.1.length = r78.1.length, 0 = 0, r78.2.1.length = r78.2.1.length, 0 = 0, r78.2.2.1.length = r78.2.2.1.length])
        (by kernel_rfl) ⟨vbB h80, rfl, rfl, rfl, rfl, rfl, rfl, rfl, rfl, rfl, rfl, rfl, rfl, rfl, rfl, rfl, rfl, rfl, rfl, rfl, rfl, rfl, rfl, rfl, rfl, rfl, rfl, rfl, rfl, trivial⟩ (fun st hl => ⟨n, _, Nat.lt_succ_self n, hl, (r78.1, r78.2.1, r78.2.2.1, r78.2.2.2.1, r78.2.2.2.2, w64 (done32 + 1), at33), rfl, rfl, h⟩)
    · 
      rcases cond_cases h with ⟨h81, h⟩ | ⟨h81, h⟩
      · 
        exact runAt_S (Q := Round _ (n + 1) _) (n := 100000) (c := (.out (.exit 2))) (K := K3) (s := (J3_0 f22 fuel23 v24 v25 v26 end31 done32 at33 ((f22.getD j50 (default : T115)).f0) ((f22.getD j50 (default : T115)).f1) ((f22.getD j50 (default : T115)).f2) ((f22.getD j50 (default : T115)).f3) ((f22.getD j50 (default : T115)).f0) (((f22.getD j50 (default : T115)).f0).length : Int) r78).sl) (e := .normal) (t := I1 f22 fuel23 v24 v25 v26 r78.1 r78.2.1 r78.2.2.1 r78.2.2.2.1 (1 : Int) (w64 (done32 + 1)) at33) (l := [(0, 0), (1, 1), (2, 2), (3, 3), (4, 4), (5, 5), (6, 6), (7, 7), (8, 8)])
          (hs := [hA, .skip, .g (.env 79 (C.v (vB false))), hA, hA, .skip, .g (.env 82 (C.v (vB true))), hA])
          (ps := [C.v (vB (decide (r78.2.2.2.2 = 2))) = C.v (vB false), C.v (vB (decide ((f22.getD j50 (default : T115)).f1 = 3))) = C.v (vB true), ((vS eT115 f22) : V) = (vS eT115 f22), (fuel23 : Int) = fuel23, 0 = 0, 0 = 0, 0 = 0, r78.2.2.2.1.length = r78.2.2.2.1.length, (1 : Int) = (1 : Int), (w64 (done32 + 1) : Int) = (w64 (done32 + 1)), (at33 : Int) = at33, (own (cs eJ v24)) = (cs eJ v24).map C.own, (own (cs eJ v25)) = (cs eJ v25).map C.own, (own (cs eJ v26)) = (cs eJ v26).map C.own, (own (cs eJ r78.1)) = (cs eJ r78.1).map C.own, (own (cs eJ r78.2.1)) = (cs eJ r78.2.1).map C.own, (own (cs eJ r78.2.2.1)) = (cs eJ r78.2.2.1).map C.own, (own (cs eJ r78.2.2.2.1)) = (cs eJ r78.2.2.2.1).map C.own, 0 = 0, v24.length = v24.length, 0 = 0, v25.length = v25.length, 0 = 0, v26.length = v26.length, 0 = 0, r78.1.length = r78.1.length, 0 = 0, r78.2.1.length = r78.2.1.length, 0 = 0, r78.2.2.1.length = r78.2.2.1.length])
          (by kernel_rfl) ⟨vbB h80, vbB h81, rfl, rfl, rfl, rfl, rfl, rfl, rfl, rfl, rfl, rfl, rfl, rfl, rfl, rfl, rfl, rfl, rfl, rfl, rfl, rfl, rfl, rfl, rfl, rfl, rfl, rfl, rfl, rfl, trivial⟩ (fun st hl => ⟨n, _, Nat.lt_succ_self n, hl, (r78.1, r78.2.1, r78.2.2.1, r78.2.2.2.1, (1 : Int), w64 (done32 + 1), at33), rfl, rfl, h⟩)
      · 
        rcases cond_cases h with ⟨h82, h⟩ | ⟨h82, h⟩
        · 
          exact runAt_S (Q := Round _ (n + 1) _) (n := 100000) (c := (.out (.exit 2))) (K := K3) (s := (J3_0 f22 fuel23 v24 v25 v26 end31 done32 at33 ((f22.getD j50 (default : T115)).f0) ((f22.getD j50 (default : T115)).f1) ((f22.getD j50 (default : T115)).f2) ((f22.getD j50 (default : T115)).f3) ((f22.getD j50 (default : T115)).f0) (((f22.getD j50 (default : T115)).f0).length : Int) r78).sl) (e := .normal) (t := I1 f22 fuel23 v24 v25 v26 r78.1 r78.2.1 r78.2.2.1 r78.2.2.2.1 (2 : Int) (w64 (done32 + 1)) at33) (l := [(0, 0), (1, 1), (2, 2), (3, 3), (4, 4), (5, 5), (6, 6), (7, 7), (8, 8)])
            (hs := [hA, .skip, .g (.env 79 (C.v (vB false))), hA, hA, .skip, .g (.env 82 (C.v (vB false))), hA, hA, .skip, .g (.env 86 (C.v (vB true))), hA])
            (ps := [C.v (vB (decide (r78.2.2.2.2 = 2))) = C.v (vB false), C.v (vB (decide ((f22.getD j50 (default : T115)).f1 = 3))) = C.v (vB false), C.v (vB (decide ((f22.getD j50 (default : T115)).f1 = 4))) = C.v (vB true), ((vS eT115 f22) : V) = (vS eT115 f22), (fuel23 : Int) = fuel23, 0 = 0, 0 = 0, 0 = 0, r78.2.2.2.1.length = r78.2.2.2.1.length, (2 : Int) = (2 : Int), (w64 (done32 + 1) : Int) = (w64 (done32 + 1)), (at33 : Int) = at33, (own (cs eJ v24)) = (cs eJ v24).map C.own, (own (cs eJ v25)) = (cs eJ v25).map C.own, (own (cs eJ v26)) = (cs eJ v26).map C.own, (own (cs eJ r78.1)) = (cs eJ r78.1).map C.own, (own (cs eJ r78.2.1)) = (cs eJ r78.2.1).map C.own, (own (cs eJ r78.2.2.1)) = (cs eJ r78.2.2.1).map C.own, (own (cs eJ r78.2.2.2.1)) = (cs eJ r78.2.2.2.1).map C.own, 0 = 0, v24.length = v24.length, 0 = 0, v25.length = v25.length, 0 = 0, v26.length = v26.length, 0 = 0, r78.1.length = r78.1.length, 0 = 0, r78.2.1.length = r78.2.1.length, 0 = 0, r78.2.2.1.length = r78.2.2.1.length])
            (by kernel_rfl) ⟨vbB h80, vbB h81, vbB h82, rfl, rfl, rfl, rfl, rfl, rfl, rfl, rfl, rfl, rfl, rfl, rfl, rfl, rfl, rfl, rfl, rfl, rfl, rfl, rfl, rfl, rfl, rfl, rfl, rfl, rfl, rfl, rfl, trivial⟩ (fun st hl => ⟨n, _, Nat.lt_succ_self n, hl, (r78.1, r78.2.1, r78.2.2.1, r78.2.2.2.1, (2 : Int), w64 (done32 + 1), at33), rfl, rfl, h⟩)
        · 
          obtain ⟨j83, h84, h⟩ := bind_cases h
          obtain ⟨r85, h86, h⟩ := bind_cases h
          obtain ⟨j87, h88, h⟩ := bind_cases h
          exact runAt_S (Q := Round _ (n + 1) _) (n := 100000) (c := (.out (.exit 2))) (K := K3) (s := (J3_0 f22 fuel23 v24 v25 v26 end31 done32 at33 ((f22.getD j50 (default : T115)).f0) ((f22.getD j50 (default : T115)).f1) ((f22.getD j50 (default : T115)).f2) ((f22.getD j50 (default : T115)).f3) ((f22.getD j50 (default : T115)).f0) (((f22.getD j50 (default : T115)).f0).length : Int) r78).sl) (e := .normal) (t := I1 f22 fuel23 v24 v25 v26 r78.1 r78.2.1 r78.2.2.1 r78.2.2.2.1 r78.2.2.2.2 (w64 (done32 + 1)) (((f22.getD j50 (default : T115)).f3).getD j87 (0 : Int))) (l := [(0, 0), (1, 1), (2, 2), (3, 3), (4, 4), (5, 5), (6, 6), (7, 7), (8, 8)])
            (hs := [hA, .skip, .g (.env 79 (C.v (vB false))), hA, hA, .skip, .g (.env 82 (C.v (vB false))), hA, hA, .skip, .g (.env 86 (C.v (vB false))), .any [[], [], [], [], [], [], [], [], [], [], [], [], [], [], [], []], hA, hA, hA, .h (.idx j83 false), .h (.cell (C.v (vI .i64 (r78.2.2.2.1.getD j83 (0 : Int))))), hA, hA, .call ⟨[.ro, .ro, .ro], 9, [], true, [], (vI .i64 r85), [], 10⟩, .h (.idv j87 (eJ.f (((f22.getD j50 (default : T115)).f3).getD j87 (0 : Int)) ++ (cs eJ (((f22.getD j50 (default : T115)).f3).drop (j87 + 1))))), hA, hA])
            (ps := [C.v (vB (decide (r78.2.2.2.2 = 2))) = C.v (vB false), C.v (vB (decide ((f22.getD j50 (default : T115)).f1 = 3))) = C.v (vB false), C.v (vB (decide ((f22.getD j50 (default : T115)).f1 = 4))) = C.v (vB false), (f22.getD j50 (default : T115)).f2 = (j83 : Int), j83 < r78.2.2.2.1.length, ((own (cs eJ r78.2.2.2.1))[0 + j83 * 1]?).bind readC = some (C.v (vI .i64 (r78.2.2.2.1.getD j83 (0 : Int)))), CallOK Try.prog 100 [.ro (vI .i64 ((f22.getD j50 (default : T115)).f1)), .ro (vI .i64 (r78.2.2.2.1.getD j83 (0 : Int))), .ro (vI .i64 (((f22.getD j50 (default : T115)).f3).length : Int))] [] (vI .i64 r85), r85 = (j87 : Int), j87 < ((f22.getD j50 (default : T115)).f3).length, (cs eJ ((f22.getD j50 (default : T115)).f3)).drop (j87 * 1) = (eJ.f (((f22.getD j50 (default : T115)).f3).getD j87 (0 : Int)) ++ (cs eJ (((f22.getD j50 (default : T115)).f3).drop (j87 + 1)))), cs eJ ((f22.getD j50 (default : T115)).f3) ≠ [], ((vS eT115 f22) : V) = (vS eT115 f22), (fuel23 : Int) = fuel23, 0 = 0, 0 = 0, 0 = 0, r78.2.2.2.1.length = r78.2.2.2.1.length, (r78.2.2.2.2 : Int) = r78.2.2.2.2, (w64 (done32 + 1) : Int) = (w64 (done32 + 1)), ((((f22.getD j50 (default : T115)).f3).getD j87 (0 : Int)) : Int) = (((f22.getD j50 (default : T115)).f3).getD j87 (0 : Int)), (own (cs eJ v24)) = (cs eJ v24).map C.own, (own (cs eJ v25)) = (cs eJ v25).map C.own, (own (cs eJ v26)) = (cs eJ v26).map C.own, (own (cs eJ r78.1)) = (cs eJ r78.1).map C.own, (own (cs eJ r78.2.1)) = (cs eJ r78.2.1).map C.own, (own (cs eJ r78.2.2.1)) = (cs eJ r78.2.2.1).map C.own, (own (cs eJ r78.2.2.2.1)) = (cs eJ r78.2.2.2.1).map C.own, 0 = 0, v24.length = v24.length, 0 = 0, v25.length = v25.length, 0 = 0, v26.length = v26.length, 0 = 0, r78.1.length = r78.1.length, 0 = 0, r78.2.1.length = r78.2.1.length, 0 = 0, r78.2.2.1.length = r78.2.2.1.length])
            (by kernel_rfl) ⟨vbB h80, vbB h81, vbB h82, (idx_S h84).1, (idx_S h84).2, readC_at (e := eJ) (k := 0) (d := (0 : Int)) (idx_S h84).2 (by decide) rfl, F100.fn_c fuel ((f22.getD j50 (default : T115)).f1) (r78.2.2.2.1.getD j83 (0 : Int)) (((f22.getD j50 (default : T115)).f3).length : Int) _ h86, (idx_S h88).1, (idx_S h88).2, cs_from (e := eJ) (d := (0 : Int)) (idx_S h88).2, cs_ne (e := eJ) (idx_S h88).2 (by decide), rfl, rfl, rfl, rfl, rfl, rfl, rfl, rfl, rfl, rfl, rfl, rfl, rfl, rfl, rfl, rfl, rfl, rfl, rfl, rfl, rfl, rfl, rfl, rfl, rfl, rfl, rfl, rfl, trivial⟩ (fun st hl => ⟨n, _, Nat.lt_succ_self n, hl, (r78.1, r78.2.1, r78.2.2.1, r78.2.2.2.1, r78.2.2.2.2, w64 (done32 + 1), (((f22.getD j50 (default : T115)).f3).getD j87 (0 : Int))), rfl, rfl, h⟩)
  · 
    obtain rfl := Option.some.inj h
    exact runAt_S (Q := Round _ (n + 1) _) (n := 100000) (c := (.out .normal)) (K := K2) (s := (J2_0 f22 fuel23 v24 v25 v26 out27 out28 out29 names30 end31 done32 at33 r47).sl) (e := (.exit 0)) (t := J1_0 f22 fuel23 v24 v25 v26 (out27, out28, out29, names30, end31, done32)) (l := [(0, 0), (1, 1), (2, 2), (3, 3), (4, 4), (5, 5), (6, 6), (7, 7), (8, 8)])
      (hs := [.g (.env 45 (C.v (vB false)))])
      (ps := [C.v (vB r47) = C.v (vB false), 0 = 0, 0 = 0, 0 = 0, names30.length = names30.length, (end31 : Int) = end31, (done32 : Int) = done32, (own (cs eJ v24)) = (cs eJ v24).map C.own, (own (cs eJ v25)) = (cs eJ v25).map C.own, (own (cs eJ v26)) = (cs eJ v26).map C.own, (own (cs eJ out27)) = (cs eJ out27).map C.own, (own (cs eJ out28)) = (cs eJ out28).map C.own, (own (cs eJ out29)) = (cs eJ out29).map C.own, (own (cs eJ names30)) = (cs eJ names30).map C.own, 0 = 0, v24.length = v24.length, 0 = 0, v25.length = v25.length, 0 = 0, v26.length = v26.length, 0 = 0, out27.length = out27.length, 0 = 0, out28.length = out28.length, 0 = 0, out29.length = out29.length])
      (by kernel_rfl) ⟨vbB h49, rfl, rfl, rfl, rfl, rfl, rfl, rfl, rfl, rfl, rfl, rfl, rfl, rfl, rfl, rfl, rfl, rfl, rfl, rfl, rfl, rfl, rfl, rfl, rfl, rfl, trivial⟩ (fun st hl => ⟨rfl, hl⟩)
def fn (fuel : Nat) (f0 : List T115) (s1 : T44) (fuel2 : Int) : Option (T44 × Int × Int × Bool) :=
  (p0 fuel f0 fuel2 s1.f0 s1.f1 s1.f2 ([] : List Int)).bind fun r15 =>
  cond (r15)
  (some ((⟨([] : List Int), ([] : List Int), ([] : List Int)⟩ : T44), 0, 0, false))
  ((F98.fn fuel s1).bind fun r18 =>
    (chk (8 * 12 ≤ 281474976710656)).bind fun _ =>
    (chk (0 < 12)).bind fun _ =>
    (p1 fuel f0 fuel2 ([] : List Int) ([] : List Int) ([] : List Int) fuel r18.f0 r18.f1 r18.f2 (copyL (List.replicate 12 (0 : Int)) s1.f0) (3 : Int) (0 : Int) (0 : Int)).bind fun r89 =>
    (chk (8 ≤ r89.2.2.2.1.length)).bind fun _ =>
    (chk (0 < r89.1.length)).bind fun _ =>
    some ((⟨copyL r89.1 (r89.2.2.2.1.take 8), r89.2.1, r89.2.2.1⟩ : T44), r89.2.2.2.2.1, r89.2.2.2.2.2, true))
theorem ent : enterable Try.prog 32 = true := by kernel_rfl
theorem fn_c (fuel : Nat) (f0 : List T115) (s1 : T44) (fuel2 : Int) (r : T44 × Int × Int × Bool) (h : fn fuel f0 s1 fuel2 = some r) : CallOK Try.prog 32 [.ro (vS eT115 f0), .ro (.ag (eT44.f s1)), .ro (vI .i64 fuel2)] [] (.tp [(.ag (eT44.f r.1)), (vI .i64 r.2.1), (vI .i64 r.2.2.1), (vB r.2.2.2)]) := by
  refine contract_run Try.func32 (b := bod Try.f32) rfl ent ?_
  unfold fn at h
  obtain ⟨r15, h16, h⟩ := bind_cases h
  refine runTo_S (n := 5) (c := (.code (bod Try.f32))) (K := []) (b := (.code B0)) (K1 := K0) (t := I0 f0 fuel2 s1.f0 s1.f1 s1.f2 ([] : List Int)) (l := [(0, 0), (1, 1), (2, 2), (3, 3), (4, 4)])
    (hs := [.h (.new 0), .h (.new 1), .skip, .skip, .skip, .g (.nilC 1 0 1), .g (.opn 1 0 2), .g (.nilC 1 1 1), .g (.opn 1 1 3), .g (.nilC 1 2 1), .g (.opn 1 2 4)])
    (ps := [((vS eT115 f0) : V) = (vS eT115 f0), (fuel2 : Int) = fuel2, 0 = 0, 0 = 0, (own (cs eJ ([] : List Int))) = (cs eJ ([] : List Int)).map C.own, (own (cs eJ ([] : List Int))) = (cs eJ ([] : List Int)).map C.own, (own (cs eJ ([] : List Int))) = (cs eJ ([] : List Int)).map C.own, ((vS eJ s1.f0) : V) = (vS eJ s1.f0), ((vS eJ s1.f1) : V) = (vS eJ s1.f1), ((vS eJ s1.f2) : V) = (vS eJ s1.f2), 0 = 0, 0 = ([] : List Int).length, 0 = 0, 0 = ([] : List Int).length, 0 = 0, 0 = ([] : List Int).length])
    (by kernel_rfl) ⟨rfl, rfl, rfl, rfl, rfl, rfl, rfl, rfl, rfl, rfl, rfl, rfl, rfl, rfl, rfl, rfl, trivial⟩ (cut_code ?_)
  refine TW.mono_le (p0_c fuel f0 fuel2 s1.f0 s1.f1 s1.f2 ([] : List Int) _ h16) ?_
  rintro e st hq
  obtain ⟨rfl, hl⟩ := hq
  refine ⟨_, hl, ?_⟩
  rcases cond_cases h with ⟨h17, h⟩ | ⟨h17, h⟩
  · 
    obtain rfl := Option.some.inj h
    exact runRet_S (r := ⟨Try.f32.results.toList, _, _, _, [(5, (cs eJ ([] : List Int)), (cs eJ ([] : List Int))), (6, (cs eJ ([] : List Int)), (cs eJ ([] : List Int))), (7, (cs eJ ([] : List Int)), (cs eJ ([] : List Int)))], 9⟩) (n := 100000) (c := (.out .normal)) (K := K0) (s := (J0_0 f0 fuel2 s1.f0 s1.f1 s1.f2 ([] : List Int) r15).sl)
      (hs := [.g (.env 30 (C.v (vB true))), hA, .skip, .skip, .skip, .g (.nilC 1 0 1), .g (.opn 1 0 5), .g (.nilC 1 1 1), .g (.opn 1 1 6), .g (.nilC 1 2 1), .g (.opn 1 2 7)])
      (ps := [C.v (vB r15) = C.v (vB true), (own (cs eJ ([] : List Int))) = (cs eJ ([] : List Int)).map C.own, 0 + 0 * 1 ≤ (cs eJ ([] : List Int)).length, ((cs eJ ([] : List Int)).drop (0)).take (0 * 1) = (cs eJ ([] : List Int)), (own (cs eJ ([] : List Int))) = (cs eJ ([] : List Int)).map C.own, 0 + 0 * 1 ≤ (cs eJ ([] : List Int)).length, ((cs eJ ([] : List Int)).drop (0)).take (0 * 1) = (cs eJ ([] : List Int)), (own (cs eJ ([] : List Int))) = (cs eJ ([] : List Int)).map C.own, 0 + 0 * 1 ≤ (cs eJ ([] : List Int)).length, ((cs eJ ([] : List Int)).drop (0)).take (0 * 1) = (cs eJ ([] : List Int)), (V.tp [(.ag [(.sl 1 0 (cs eJ ([] : List Int))), (.sl 1 0 (cs eJ ([] : List Int))), (.sl 1 0 (cs eJ ([] : List Int)))]), (vI .i64 0), (vI .i64 0), (vB false)]) = V.tp [(.ag (eT44.f (⟨([] : List Int), ([] : List Int), ([] : List Int)⟩ : T44))), (vI .i64 0), (vI .i64 0), (vB false)]])
      (by kernel_rfl) ⟨vbB h17, rfl, len_all (e := eJ) (rfl), take_cs (e := eJ) (rfl), rfl, len_all (e := eJ) (rfl), take_cs (e := eJ) (rfl), rfl, len_all (e := eJ) (rfl), take_cs (e := eJ) (rfl), rfl, trivial⟩ rfl (fun _ _ h => h)
  · 
    obtain ⟨r18, h19, h⟩ := bind_cases h
    obtain ⟨_, h20, h⟩ := bind_cases h
    obtain ⟨_, h21, h⟩ := bind_cases h
    obtain ⟨r89, h90, h⟩ := bind_cases h
    refine runTo_S (n := 100000) (c := (.out .normal)) (K := K0) (s := (J0_0 f0 fuel2 s1.f0 s1.f1 s1.f2 ([] : List Int) r15).sl) (b := (.code (.loop L1))) (K1 := K1) (t := I1 f0 fuel2 ([] : List Int) ([] : List Int) ([] : List Int) r18.f0 r18.f1 r18.f2 (copyL (List.replicate 12 (0 : Int)) s1.f0) (3 : Int) (0 : Int) (0 : Int)) (l := [(0, 1), (1, 2), (2, 3), (3, 4), (4, 9), (5, 5), (6, 6), (7, 7), (8, 8)])
      (hs := [.g (.env 30 (C.v (vB false))), .any [[], [5, 6, 7], [8], [9], [9], []], hA, .call ⟨[.ro], 9, [], true, [], (.ag (eT44.f r18)), [], 5⟩, .h (.mk 8 12 (own (cs eJ (List.replicate 12 (0 : Int))))), .h (.new 9), hA, hA, .h (.apd 0 ((cs eJ s1.f0).map C.v) (own (cs eJ (copyL (List.replicate 12 (0 : Int)) s1.f0))))])
      (ps := [C.v (vB r15) = C.v (vB false), CallOK Try.prog 98 [.ro (.ag [(vS eJ s1.f0), (vS eJ s1.f1), (vS eJ s1.f2)])] [] (.ag (eT44.f r18)), 12 = (12 : Int), 12 = (12 : Int), 12 ≤ 281474976710656, 8 * 12 ≤ 281474976710656, (List.replicate 12 (([Value.int .i64 0] : List Value).map fun z => C.own (.sc z))).flatten = (own (cs eJ (List.replicate 12 (0 : Int)))), (cs eJ s1.f0).length = s1.f0.length * 1, (cs eJ s1.f0).map C.v = ((cs eJ s1.f0).map C.v), ((cs eJ s1.f0).map C.v).all oneC = true, 0 + 12 * 1 ≤ (own (cs eJ (List.replicate 12 (0 : Int)))).length, 0 < 12, setRange (own (cs eJ (List.replicate 12 (0 : Int)))) 0 ((((cs eJ s1.f0).map C.v).take (Nat.min s1.f0.length 12 * 1)).map toCell) = (own (cs eJ (copyL (List.replicate 12 (0 : Int)) s1.f0))), ((vS eT115 f0) : V) = (vS eT115 f0), (fuel2 : Int) = fuel2, 0 = 0, 0 = 0, 0 = 0, 12 = (copyL (List.replicate 12 (0 : Int)) s1.f0).length, (3 : Int) = (3 : Int), (0 : Int) = (0 : Int), (0 : Int) = (0 : Int), (own (cs eJ ([] : List Int))) = (cs eJ ([] : List Int)).map C.own, (own (cs eJ ([] : List Int))) = (cs eJ ([] : List Int)).map C.own, (own (cs eJ ([] : List Int))) = (cs eJ ([] : List Int)).map C.own, (own (cs eJ r18.f0)) = (cs eJ r18.f0).map C.own, (own (cs eJ r18.f1)) = (cs eJ r18.f1).map C.own, (own (cs eJ r18.f2)) = (cs eJ r18.f2).map C.own, (own (cs eJ (copyL (List.replicate 12 (0 : Int)) s1.f0))) = (cs eJ (copyL (List.replicate 12 (0 : Int)) s1.f0)).map C.own, 0 = 0, ([] : List Int).length = ([] : List Int).length, 0 = 0, ([] : List Int).length = ([] : List Int).length, 0 = 0, ([] : List Int).length = ([] : List Int).length, 0 = 0, r18.f0.length = r18.f0.length, 0 = 0, r18.f1.length = r18.f1.length, 0 = 0, r18.f2.length = r18.f2.length])
      (by kernel_rfl) ⟨vbB h17, F98.fn_c fuel s1 _ h19, rfl, rfl, by have := (chk_S h20); omega, (chk_S h20), repl_cs (e := eJ) rfl, cs_length, rfl, all_one, own_len (e := eJ) (List.length_replicate.symm), (chk_S h21), copy_cs (e := eJ) (List.length_replicate.symm) (rfl), rfl, rfl, rfl, rfl, rfl, (List.length_replicate.symm).trans ((copyL_len _ _).symm), rfl, rfl, rfl, rfl, rfl, rfl, rfl, rfl, rfl, rfl, rfl, rfl, rfl, rfl, rfl, rfl, rfl, rfl, rfl, rfl, rfl, rfl, trivial⟩ (cut_code ?_)
    refine TW.mono_le (p1_c fuel f0 fuel2 ([] : List Int) ([] : List Int) ([] : List Int) fuel r18.f0 r18.f1 r18.f2 (copyL (List.replicate 12 (0 : Int)) s1.f0) (3 : Int) (0 : Int) (0 : Int) _ h90) ?_
    rintro e st hq
    obtain ⟨rfl, hl⟩ := hq
    refine ⟨_, hl, ?_⟩
    obtain ⟨_, h91, h⟩ := bind_cases h
    obtain ⟨_, h92, h⟩ := bind_cases h
    obtain rfl := Option.some.inj h
    exact runRet_S (r := ⟨Try.f32.results.toList, _, _, _, [(5, (cs eJ (copyL r89.1 (r89.2.2.2.1.take 8))), (cs eJ (copyL r89.1 (r89.2.2.2.1.take 8)))), (6, (cs eJ r89.2.1), (cs eJ r89.2.1)), (7, (cs eJ r89.2.2.1), (cs eJ r89.2.2.1))], 9⟩) (n := 100000) (c := (.out (.exit 0))) (K := K1) (s := (J1_0 f0 fuel2 ([] : List Int) ([] : List Int) ([] : List Int) r89).sl)
      (hs := [.any [[], [], [], [], [5]], hA, .h (.sl 0 8 false), .h (.apd 0 ((cs eJ (r89.2.2.2.1.take 8)).map C.v) (own (cs eJ (copyL r89.1 (r89.2.2.2.1.take 8))))), hA, hA])
      (ps := [(0 : Int) = ((0 : Nat) : Int), (8 : Int) = ((8 : Nat) : Int), 0 ≤ 8, 8 ≤ r89.2.2.2.1.length, 0 + 0 * 1 + (8 - 0) * 1 ≤ (own (cs eJ r89.2.2.2.1)).length, readL (((own (cs eJ r89.2.2.2.1)).drop (0 + 0 * 1)).take ((8 - 0) * 1)) = some ((cs eJ (r89.2.2.2.1.take 8)).map C.v), ((cs eJ (r89.2.2.2.1.take 8)).map C.v).all oneC = true, 0 + r89.1.length * 1 ≤ (own (cs eJ r89.1)).length, 0 < r89.1.length, setRange (own (cs eJ r89.1)) 0 ((((cs eJ (r89.2.2.2.1.take 8)).map C.v).take (Nat.min (8 - 0) r89.1.length * 1)).map toCell) = (own (cs eJ (copyL r89.1 (r89.2.2.2.1.take 8)))), (own (cs eJ (copyL r89.1 (r89.2.2.2.1.take 8)))) = (cs eJ (copyL r89.1 (r89.2.2.2.1.take 8))).map C.own, 0 + r89.1.length * 1 ≤ (cs eJ (copyL r89.1 (r89.2.2.2.1.take 8))).length, ((cs eJ (copyL r89.1 (r89.2.2.2.1.take 8))).drop (0)).take (r89.1.length * 1) = (cs eJ (copyL r89.1 (r89.2.2.2.1.take 8))), (own (cs eJ r89.2.1)) = (cs eJ r89.2.1).map C.own, 0 + r89.2.1.length * 1 ≤ (cs eJ r89.2.1).length, ((cs eJ r89.2.1).drop (0)).take (r89.2.1.length * 1) = (cs eJ r89.2.1), (own (cs eJ r89.2.2.1)) = (cs eJ r89.2.2.1).map C.own, 0 + r89.2.2.1.length * 1 ≤ (cs eJ r89.2.2.1).length, ((cs eJ r89.2.2.1).drop (0)).take (r89.2.2.1.length * 1) = (cs eJ r89.2.2.1), (V.tp [(.ag [(.sl 1 r89.1.length (cs eJ (copyL r89.1 (r89.2.2.2.1.take 8)))), (.sl 1 r89.2.1.length (cs eJ r89.2.1)), (.sl 1 r89.2.2.1.length (cs eJ r89.2.2.1))]), (vI .i64 r89.2.2.2.2.1), (vI .i64 r89.2.2.2.2.2), (vB true)]) = V.tp [(.ag (eT44.f (⟨copyL r89.1 (r89.2.2.2.1.take 8), r89.2.1, r89.2.2.1⟩ : T44))), (vI .i64 r89.2.2.2.2.1), (vI .i64 r89.2.2.2.2.2), (vB true)]])
      (by kernel_rfl) ⟨rfl, rfl, (Nat.zero_le _), (chk_S h91), by rw [own_length]; exact sub_len (e := eJ) (rfl) (Nat.zero_le _) (chk_S h91), readL_cs (sub_take_hi (e := eJ) (rfl) (Nat.zero_le _) (chk_S h91)), all_one, own_len (e := eJ) (rfl), (chk_S h92), copy_cs (e := eJ) (rfl) (sub_ln_hi (rfl) (Nat.zero_le _) (chk_S h91)), rfl, len_all (e := eJ) ((copyL_len _ _).symm), take_cs (e := eJ) ((copyL_len _ _).symm), rfl, len_all (e := eJ) (rfl), take_cs (e := eJ) (rfl), rfl, len_all (e := eJ) (rfl), take_cs (e := eJ) (rfl), (by rw [show r89.1.length = (copyL r89.1 (r89.2.2.2.1.take 8)).length from ((copyL_len _ _).symm)]; try rfl), trivial⟩ rfl (fun _ _ h => h)
end F32
namespace F44
/-! laws.eqIntS -/
noncomputable def K0 := (subC [1, 1, 0, 1, 0] (bod Try.f44) []).2
noncomputable def L0 := (subC [1, 1, 0, 1, 0, 0] (bod Try.f44) []).1
def I0 (a2 : List Int) (b3 : List Int) (i4 : Int) : TL := ⟨26, [C.dead, C.dead], [(0, C.v (vS eJ a2)), (1, C.v (vS eJ b3)), (5, C.v (vI .i64 i4))], [], []⟩
def J0_0 (a2 : List Int) (b3 : List Int) (o : Unit) : TL := ⟨26, [C.dead, C.dead], [(4, C.v (vB false))], [], []⟩
def J0_1 (a2 : List Int) (b3 : List Int) (o : Unit) : TL := ⟨26, [C.dead, C.dead], [], [], []⟩
def Q0 (a2 : List Int) (b3 : List Int) (r : Unit ⊕ Unit) (e : Exit) (st : St) : Prop := (Sum.elim (fun o => e = .ret ∧ Le st (J0_0 a2 b3 o).sl.st) (fun o => e = (.exit 0) ∧ Le st (J0_1 a2 b3 o).sl.st)) r
def p0 (fuel : Nat) (a2 : List Int) (b3 : List Int) : Nat → Int → Option (Unit ⊕ Unit)
  | 0, _ => none
  | n + 1, i4 =>
    cond (decide (i4 < (a2.length : Int)))
    ((idx i4 a2.length).bind fun j6 =>
      (idx i4 b3.length).bind fun j8 =>
      cond (!decide ((a2.getD j6 (0 : Int)) = (b3.getD j8 (0 : Int))))
      (some (.inl ()))
      (p0 fuel a2 b3 n (w64 (i4 + 1))))
    (some (.inr ()))
theorem p0_c (fuel : Nat) (a2 : List Int) (b3 : List Int) (n : Nat) (i4 : Int) (r : Unit ⊕ Unit) (h : p0 fuel a2 b3 n i4 = some r) : TW Try.prog (.loop L0) (I0 a2 b3 i4).sl.st (Q0 a2 b3 r) := by
  refine loop_run (σ := Int) (fun x => I0 a2 b3 x) (fun n x => p0 fuel a2 b3 n x) (Q0 a2 b3) ?_ (fun _ => rfl) (x := i4) h
  clear h
  rintro n i4 r h
  replace h : p0 fuel a2 b3 (n + 1) i4 = some r := h
  rw [p0] at h
  rcases cond_cases h with ⟨h5, h⟩ | ⟨h5, h⟩
  · 
    obtain ⟨j6, h7, h⟩ := bind_cases h
    obtain ⟨j8, h9, h⟩ := bind_cases h
    rcases cond_cases h with ⟨h10, h⟩ | ⟨h10, h⟩
    · 
      obtain rfl := Option.some.inj h
      exact runAt_S (Q := Round _ (n + 1) _) (n := 100000) (c := (.code L0)) (K := []) (s := (I0 a2 b3 i4).sl) (e := .ret) (t := J0_0 a2 b3 ()) (l := [])
        (hs := [hA, hA, .g (.env 14 (C.v (vB true))), .any [[], [], [], [], [], [], [], [], []], .h (.idv j6 (eJ.f (a2.getD j6 (0 : Int)) ++ (cs eJ (a2.drop (j6 + 1))))), hA, .h (.idv j8 (eJ.f (b3.getD j8 (0 : Int)) ++ (cs eJ (b3.drop (j8 + 1))))), hA, hA, .g (.env 25 (C.v (vB true)))])
        (ps := [C.v (vB (decide (i4 < (a2.length : Int)))) = C.v (vB true), i4 = (j6 : Int), j6 < a2.length, (cs eJ a2).drop (j6 * 1) = (eJ.f (a2.getD j6 (0 : Int)) ++ (cs eJ (a2.drop (j6 + 1)))), cs eJ a2 ≠ [], i4 = (j8 : Int), j8 < b3.length, (cs eJ b3).drop (j8 * 1) = (eJ.f (b3.getD j8 (0 : Int)) ++ (cs eJ (b3.drop (j8 + 1)))), cs eJ b3 ≠ [], C.v (vB (!decide ((a2.getD j6 (0 : Int)) = (b3.getD j8 (0 : Int))))) = C.v (vB true), (false : Bool) = false])
        (by kernel_rfl) ⟨vbB h5, (idx_S h7).1, (idx_S h7).2, cs_from (e := eJ) (d := (0 : Int)) (idx_S h7).2, cs_ne (e := eJ) (idx_S h7).2 (by decide), (idx_S h9).1, (idx_S h9).2, cs_from (e := eJ) (d := (0 : Int)) (idx_S h9).2, cs_ne (e := eJ) (idx_S h9).2 (by decide), vbB h10, rfl, trivial⟩ (fun st hl => ⟨rfl, hl⟩)
    · 
      exact runAt_S (Q := Round _ (n + 1) _) (n := 100000) (c := (.code L0)) (K := []) (s := (I0 a2 b3 i4).sl) (e := .normal) (t := I0 a2 b3 (w64 (i4 + 1))) (l := [])
        (hs := [hA, hA, .g (.env 14 (C.v (vB true))), .any [[], [], [], [], [], [], [], [], []], .h (.idv j6 (eJ.f (a2.getD j6 (0 : Int)) ++ (cs eJ (a2.drop (j6 + 1))))), hA, .h (.idv j8 (eJ.f (b3.getD j8 (0 : Int)) ++ (cs eJ (b3.drop (j8 + 1))))), hA, hA, .g (.env 25 (C.v (vB false))), hA])
        (ps := [C.v (vB (decide (i4 < (a2.length : Int)))) = C.v (vB true), i4 = (j6 : Int), j6 < a2.length, (cs eJ a2).drop (j6 * 1) = (eJ.f (a2.getD j6 (0 : Int)) ++ (cs eJ (a2.drop (j6 + 1)))), cs eJ a2 ≠ [], i4 = (j8 : Int), j8 < b3.length, (cs eJ b3).drop (j8 * 1) = (eJ.f (b3.getD j8 (0 : Int)) ++ (cs eJ (b3.drop (j8 + 1)))), cs eJ b3 ≠ [], C.v (vB (!decide ((a2.getD j6 (0 : Int)) = (b3.getD j8 (0 : Int))))) = C.v (vB false), ((vS eJ a2) : V) = (vS eJ a2), ((vS eJ b3) : V) = (vS eJ b3), (w64 (i4 + 1) : Int) = (w64 (i4 + 1))])
        (by kernel_rfl) ⟨vbB h5, (idx_S h7).1, (idx_S h7).2, cs_from (e := eJ) (d := (0 : Int)) (idx_S h7).2, cs_ne (e := eJ) (idx_S h7).2 (by decide), (idx_S h9).1, (idx_S h9).2, cs_from (e := eJ) (d := (0 : Int)) (idx_S h9).2, cs_ne (e := eJ) (idx_S h9).2 (by decide), vbB h10, rfl, rfl, rfl, trivial⟩ (fun st hl => ⟨n, _, Nat.lt_succ_self n, hl, w64 (i4 + 1), rfl, rfl, h⟩)
  · 
    obtain rfl := Option.some.inj h
    exact runAt_S (Q := Round _ (n + 1) _) (n := 100000) (c := (.code L0)) (K := []) (s := (I0 a2 b3 i4).sl) (e := (.exit 0)) (t := J0_1 a2 b3 ()) (l := [])
      (hs := [hA, hA, .g (.env 14 (C.v (vB false)))])
      (ps := [C.v (vB (decide (i4 < (a2.length : Int)))) = C.v (vB false)])
      (by kernel_rfl) ⟨vbB h5, trivial⟩ (fun st hl => ⟨rfl, hl⟩)
def fn (fuel : Nat) (a0 : List Int) (b1 : List Int) : Option Bool :=
  cond (!decide ((a0.length : Int) = (b1.length : Int)))
  (some false)
  ((p0 fuel a0 b1 fuel (0 : Int)).bind fun r11 =>
    (Sum.elim (fun y13 => some false)
    (fun y14 => some true)) r11)
theorem ent : enterable Try.prog 44 = true := by kernel_rfl
theorem fn_c (fuel : Nat) (a0 : List Int) (b1 : List Int) (r : Bool) (h : fn fuel a0 b1 = some r) : CallOK Try.prog 44 [.ro (vS eJ a0), .ro (vS eJ b1)] [] (vB r) := by
  refine contract_run Try.func44 (b := bod Try.f44) rfl ent ?_
  unfold fn at h
  rcases cond_cases h with ⟨h1, h⟩ | ⟨h1, h⟩
  · 
    obtain rfl := Option.some.inj h
    exact runRet_S (r := ⟨Try.f44.results.toList, _, _, _, [], 9⟩) (n := 100000) (c := (.code (bod Try.f44))) (K := [])
      (hs := [hA, hA, hA, .g (.env 10 (C.v (vB true)))])
      (ps := [C.v (vB (!decide ((a0.length : Int) = (b1.length : Int)))) = C.v (vB true), (false : Bool) = false])
      (by kernel_rfl) ⟨vbB h1, rfl, trivial⟩ rfl (fun _ _ h => h)
  · 
    obtain ⟨r11, h12, h⟩ := bind_cases h
    refine runTo_S (n := 100000) (c := (.code (bod Try.f44))) (K := []) (b := (.code (.loop L0))) (K1 := K0) (t := I0 a0 b1 (0 : Int)) (l := [])
      (hs := [hA, hA, hA, .g (.env 10 (C.v (vB false)))])
      (ps := [C.v (vB (!decide ((a0.length : Int) = (b1.length : Int)))) = C.v (vB false), ((vS eJ a0) : V) = (vS eJ a0), ((vS eJ b1) : V) = (vS eJ b1), (0 : Int) = (0 : Int)])
      (by kernel_rfl) ⟨vbB h1, rfl, rfl, rfl, trivial⟩ (cut_code ?_)
    refine TW.mono_le (p0_c fuel a0 b1 fuel (0 : Int) _ h12) ?_
    rcases r11 with y13 | y14
    · 
      replace h := sum_l h
      rintro e st hq
      obtain ⟨rfl, hl⟩ := hq
      refine ⟨_, hl, ?_⟩
      obtain rfl := Option.some.inj h
      exact runRet_S (r := ⟨Try.f44.results.toList, _, _, _, [], 9⟩) (n := 100000) (c := (.out .ret)) (K := K0) (s := (J0_0 a0 b1 y13).sl)
        (hs := [])
        (ps := [(false : Bool) = false])
        (by kernel_rfl) ⟨rfl, trivial⟩ rfl (fun _ _ h => h)
    · 
      replace h := sum_r h
      rintro e st hq
      obtain ⟨rfl, hl⟩ := hq
      refine ⟨_, hl, ?_⟩
      obtain rfl := Option.some.inj h
      exact runRet_S (r := ⟨Try.f44.results.toList, _, _, _, [], 9⟩) (n := 100000) (c := (.out (.exit 0))) (K := K0) (s := (J0_1 a0 b1 y14).sl)
        (hs := [])
        (ps := [(true : Bool) = true])
        (by kernel_rfl) ⟨rfl, trivial⟩ rfl (fun _ _ h => h)
end F44
namespace F33
/-! laws.eqState -/
def fn (fuel : Nat) (a0 : T44) (b1 : T44) : Option Bool :=
  (F44.fn fuel a0.f0 b1.f0).bind fun r1 =>
  cond (!r1)
  (some false)
  ((F44.fn fuel a0.f1 b1.f1).bind fun r4 =>
    cond (!r4)
    (some false)
    ((F44.fn fuel a0.f2 b1.f2).bind fun r7 =>
      cond (!r7)
      (some false)
      (some true)))
theorem ent : enterable Try.prog 33 = true := by kernel_rfl
theorem fn_c (fuel : Nat) (a0 : T44) (b1 : T44) (r : Bool) (h : fn fuel a0 b1 = some r) : CallOK Try.prog 33 [.ro (.ag (eT44.f a0)), .ro (.ag (eT44.f b1))] [] (vB r) := by
  refine contract_run Try.func33 (b := bod Try.f33) rfl ent ?_
  unfold fn at h
  obtain ⟨r1, h2, h⟩ := bind_cases h
  rcases cond_cases h with ⟨h3, h⟩ | ⟨h3, h⟩
  · 
    obtain rfl := Option.some.inj h
    exact runRet_S (r := ⟨Try.f33.results.toList, _, _, _, [], 9⟩) (n := 100000) (c := (.code (bod Try.f33))) (K := [])
      (hs := [.h (.new 0), .h (.new 1), hA, hA, .call ⟨[.ro, .ro], 9, [], true, [], (vB r1), [], 2⟩, hA, .g (.env 10 (C.v (vB true)))])
      (ps := [CallOK Try.prog 44 [.ro (vS eJ a0.f0), .ro (vS eJ b1.f0)] [] (vB r1), C.v (vB (!r1)) = C.v (vB true), (false : Bool) = false])
      (by kernel_rfl) ⟨F44.fn_c fuel a0.f0 b1.f0 _ h2, vbB h3, rfl, trivial⟩ rfl (fun _ _ h => h)
  · 
    obtain ⟨r4, h5, h⟩ := bind_cases h
    rcases cond_cases h with ⟨h6, h⟩ | ⟨h6, h⟩
    · 
      obtain rfl := Option.some.inj h
      exact runRet_S (r := ⟨Try.f33.results.toList, _, _, _, [], 9⟩) (n := 100000) (c := (.code (bod Try.f33))) (K := [])
        (hs := [.h (.new 0), .h (.new 1), hA, hA, .call ⟨[.ro, .ro], 9, [], true, [], (vB r1), [], 2⟩, hA, .g (.env 10 (C.v (vB false))), hA, hA, .call ⟨[.ro, .ro], 9, [], true, [], (vB r4), [], 2⟩, hA, .g (.env 16 (C.v (vB true)))])
        (ps := [CallOK Try.prog 44 [.ro (vS eJ a0.f0), .ro (vS eJ b1.f0)] [] (vB r1), C.v (vB (!r1)) = C.v (vB false), CallOK Try.prog 44 [.ro (vS eJ a0.f1), .ro (vS eJ b1.f1)] [] (vB r4), C.v (vB (!r4)) = C.v (vB true), (false : Bool) = false])
        (by kernel_rfl) ⟨F44.fn_c fuel a0.f0 b1.f0 _ h2, vbB h3, F44.fn_c fuel a0.f1 b1.f1 _ h5, vbB h6, rfl, trivial⟩ rfl (fun _ _ h => h)
    · 
      obtain ⟨r7, h8, h⟩ := bind_cases h
      rcases cond_cases h with ⟨h9, h⟩ | ⟨h9, h⟩
      · 
        obtain rfl := Option.some.inj h
        exact runRet_S (r := ⟨Try.f33.results.toList, _, _, _, [], 9⟩) (n := 100000) (c := (.code (bod Try.f33))) (K := [])
          (hs := [.h (.new 0), .h (.new 1), hA, hA, .call ⟨[.ro, .ro], 9, [], true, [], (vB r1), [], 2⟩, hA, .g (.env 10 (C.v (vB false))), hA, hA, .call ⟨[.ro, .ro], 9, [], true, [], (vB r4), [], 2⟩, hA, .g (.env 16 (C.v (vB false))), hA, hA, .call ⟨[.ro, .ro], 9, [], true, [], (vB r7), [], 2⟩, hA, .g (.env 22 (C.v (vB true)))])
          (ps := [CallOK Try.prog 44 [.ro (vS eJ a0.f0), .ro (vS eJ b1.f0)] [] (vB r1), C.v (vB (!r1)) = C.v (vB false), CallOK Try.prog 44 [.ro (vS eJ a0.f1), .ro (vS eJ b1.f1)] [] (vB r4), C.v (vB (!r4)) = C.v (vB false), CallOK Try.prog 44 [.ro (vS eJ a0.f2), .ro (vS eJ b1.f2)] [] (vB r7), C.v (vB (!r7)) = C.v (vB true), (false : Bool) = false])
          (by kernel_rfl) ⟨F44.fn_c fuel a0.f0 b1.f0 _ h2, vbB h3, F44.fn_c fuel a0.f1 b1.f1 _ h5, vbB h6, F44.fn_c fuel a0.f2 b1.f2 _ h8, vbB h9, rfl, trivial⟩ rfl (fun _ _ h => h)
      · 
        obtain rfl := Option.some.inj h
        exact runRet_S (r := ⟨Try.f33.results.toList, _, _, _, [], 9⟩) (n := 100000) (c := (.code (bod Try.f33))) (K := [])
          (hs := [.h (.new 0), .h (.new 1), hA, hA, .call ⟨[.ro, .ro], 9, [], true, [], (vB r1), [], 2⟩, hA, .g (.env 10 (C.v (vB false))), hA, hA, .call ⟨[.ro, .ro], 9, [], true, [], (vB r4), [], 2⟩, hA, .g (.env 16 (C.v (vB false))), hA, hA, .call ⟨[.ro, .ro], 9, [], true, [], (vB r7), [], 2⟩, hA, .g (.env 22 (C.v (vB false)))])
          (ps := [CallOK Try.prog 44 [.ro (vS eJ a0.f0), .ro (vS eJ b1.f0)] [] (vB r1), C.v (vB (!r1)) = C.v (vB false), CallOK Try.prog 44 [.ro (vS eJ a0.f1), .ro (vS eJ b1.f1)] [] (vB r4), C.v (vB (!r4)) = C.v (vB false), CallOK Try.prog 44 [.ro (vS eJ a0.f2), .ro (vS eJ b1.f2)] [] (vB r7), C.v (vB (!r7)) = C.v (vB false), (true : Bool) = true])
          (by kernel_rfl) ⟨F44.fn_c fuel a0.f0 b1.f0 _ h2, vbB h3, F44.fn_c fuel a0.f1 b1.f1 _ h5, vbB h6, F44.fn_c fuel a0.f2 b1.f2 _ h8, vbB h9, rfl, trivial⟩ rfl (fun _ _ h => h)
end F33
namespace F105
/-! laws.eqFlat -/
def fn (fuel : Nat) (a0 : T131) (b1 : T131) : Option Bool :=
  cond (!decide (a0.f0 = b1.f0))
  (some false)
  (cond (!decide (a0.f1 = b1.f1))
    (some false)
    (cond (!decide (a0.f2 = b1.f2))
      (some false)
      (cond (!decide (a0.f3 = b1.f3))
        (some false)
        (cond (!decide (a0.f4 = b1.f4))
          (some false)
          (cond (!decide (a0.f5 = b1.f5))
            (some false)
            (some true))))))
theorem ent : enterable Try.prog 105 = true := by kernel_rfl
theorem fn_c (fuel : Nat) (a0 : T131) (b1 : T131) (r : Bool) (h : fn fuel a0 b1 = some r) : CallOK Try.prog 105 [.ro (.ag (eT131.f a0)), .ro (.ag (eT131.f b1))] [] (vB r) := by
  refine contract_run Try.func105 (b := bod Try.f105) rfl ent ?_
  unfold fn at h
  rcases cond_cases h with ⟨h1, h⟩ | ⟨h1, h⟩
  · 
    obtain rfl := Option.some.inj h
    exact runRet_S (r := ⟨Try.f105.results.toList, _, _, _, [], 9⟩) (n := 100000) (c := (.code (bod Try.f105))) (K := [])
      (hs := [.h (.new 0), .h (.new 1), hA, hA, hA, .g (.env 9 (C.v (vB true)))])
      (ps := [C.v (vB (!decide (a0.f0 = b1.f0))) = C.v (vB true), (false : Bool) = false])
      (by kernel_rfl) ⟨vbB h1, rfl, trivial⟩ rfl (fun _ _ h => h)
  · 
    rcases cond_cases h with ⟨h2, h⟩ | ⟨h2, h⟩
    · 
      obtain rfl := Option.some.inj h
      exact runRet_S (r := ⟨Try.f105.results.toList, _, _, _, [], 9⟩) (n := 100000) (c := (.code (bod Try.f105))) (K := [])
        (hs := [.h (.new 0), .h (.new 1), hA, hA, hA, .g (.env 9 (C.v (vB false))), hA, hA, hA, .g (.env 14 (C.v (vB true)))])
        (ps := [C.v (vB (!decide (a0.f0 = b1.f0))) = C.v (vB false), C.v (vB (!decide (a0.f1 = b1.f1))) = C.v (vB true), (false : Bool) = false])
        (by kernel_rfl) ⟨vbB h1, vbB h2, rfl, trivial⟩ rfl (fun _ _ h => h)
    · 
      rcases cond_cases h with ⟨h3, h⟩ | ⟨h3, h⟩
      · 
        obtain rfl := Option.some.inj h
        exact runRet_S (r := ⟨Try.f105.results.toList, _, _, _, [], 9⟩) (n := 100000) (c := (.code (bod Try.f105))) (K := [])
          (hs := [.h (.new 0), .h (.new 1), hA, hA, hA, .g (.env 9 (C.v (vB false))), hA, hA, hA, .g (.env 14 (C.v (vB false))), hA, hA, hA, .g (.env 19 (C.v (vB true)))])
          (ps := [C.v (vB (!decide (a0.f0 = b1.f0))) = C.v (vB false), C.v (vB (!decide (a0.f1 = b1.f1))) = C.v (vB false), C.v (vB (!decide (a0.f2 = b1.f2))) = C.v (vB true), (false : Bool) = false])
          (by kernel_rfl) ⟨vbB h1, vbB h2, vbB h3, rfl, trivial⟩ rfl (fun _ _ h => h)
      · 
        rcases cond_cases h with ⟨h4, h⟩ | ⟨h4, h⟩
        · 
          obtain rfl := Option.some.inj h
          exact runRet_S (r := ⟨Try.f105.results.toList, _, _, _, [], 9⟩) (n := 100000) (c := (.code (bod Try.f105))) (K := [])
            (hs := [.h (.new 0), .h (.new 1), hA, hA, hA, .g (.env 9 (C.v (vB false))), hA, hA, hA, .g (.env 14 (C.v (vB false))), hA, hA, hA, .g (.env 19 (C.v (vB false))), hA, hA, hA, .g (.env 24 (C.v (vB true)))])
            (ps := [C.v (vB (!decide (a0.f0 = b1.f0))) = C.v (vB false), C.v (vB (!decide (a0.f1 = b1.f1))) = C.v (vB false), C.v (vB (!decide (a0.f2 = b1.f2))) = C.v (vB false), C.v (vB (!decide (a0.f3 = b1.f3))) = C.v (vB true), (false : Bool) = false])
            (by kernel_rfl) ⟨vbB h1, vbB h2, vbB h3, vbB h4, rfl, trivial⟩ rfl (fun _ _ h => h)
        · 
          rcases cond_cases h with ⟨h5, h⟩ | ⟨h5, h⟩
          · 
            obtain rfl := Option.some.inj h
            exact runRet_S (r := ⟨Try.f105.results.toList, _, _, _, [], 9⟩) (n := 100000) (c := (.code (bod Try.f105))) (K := [])
              (hs := [.h (.new 0), .h (.new 1), hA, hA, hA, .g (.env 9 (C.v (vB false))), hA, hA, hA, .g (.env 14 (C.v (vB false))), hA, hA, hA, .g (.env 19 (C.v (vB false))), hA, hA, hA, .g (.env 24 (C.v (vB false))), hA, hA, hA, .g (.env 29 (C.v (vB true)))])
              (ps := [C.v (vB (!decide (a0.f0 = b1.f0))) = C.v (vB false), C.v (vB (!decide (a0.f1 = b1.f1))) = C.v (vB false), C.v (vB (!decide (a0.f2 = b1.f2))) = C.v (vB false), C.v (vB (!decide (a0.f3 = b1.f3))) = C.v (vB false), C.v (vB (!decide (a0.f4 = b1.f4))) = C.v (vB true), (false : Bool) = false])
              (by kernel_rfl) ⟨vbB h1, vbB h2, vbB h3, vbB h4, vbB h5, rfl, trivial⟩ rfl (fun _ _ h => h)
          · 
            rcases cond_cases h with ⟨h6, h⟩ | ⟨h6, h⟩
            · 
              obtain rfl := Option.some.inj h
              exact runRet_S (r := ⟨Try.f105.results.toList, _, _, _, [], 9⟩) (n := 100000) (c := (.code (bod Try.f105))) (K := [])
                (hs := [.h (.new 0), .h (.new 1), hA, hA, hA, .g (.env 9 (C.v (vB false))), hA, hA, hA, .g (.env 14 (C.v (vB false))), hA, hA, hA, .g (.env 19 (C.v (vB false))), hA, hA, hA, .g (.env 24 (C.v (vB false))), hA, hA, hA, .g (.env 29 (C.v (vB false))), hA, hA, hA, .g (.env 34 (C.v (vB true)))])
                (ps := [C.v (vB (!decide (a0.f0 = b1.f0))) = C.v (vB false), C.v (vB (!decide (a0.f1 = b1.f1))) = C.v (vB false), C.v (vB (!decide (a0.f2 = b1.f2))) = C.v (vB false), C.v (vB (!decide (a0.f3 = b1.f3))) = C.v (vB false), C.v (vB (!decide (a0.f4 = b1.f4))) = C.v (vB false), C.v (vB (!decide (a0.f5 = b1.f5))) = C.v (vB true), (false : Bool) = false])
                (by kernel_rfl) ⟨vbB h1, vbB h2, vbB h3, vbB h4, vbB h5, vbB h6, rfl, trivial⟩ rfl (fun _ _ h => h)
            · 
              obtain rfl := Option.some.inj h
              exact runRet_S (r := ⟨Try.f105.results.toList, _, _, _, [], 9⟩) (n := 100000) (c := (.code (bod Try.f105))) (K := [])
                (hs := [.h (.new 0), .h (.new 1), hA, hA, hA, .g (.env 9 (C.v (vB false))), hA, hA, hA, .g (.env 14 (C.v (vB false))), hA, hA, hA, .g (.env 19 (C.v (vB false))), hA, hA, hA, .g (.env 24 (C.v (vB false))), hA, hA, hA, .g (.env 29 (C.v (vB false))), hA, hA, hA, .g (.env 34 (C.v (vB false)))])
                (ps := [C.v (vB (!decide (a0.f0 = b1.f0))) = C.v (vB false), C.v (vB (!decide (a0.f1 = b1.f1))) = C.v (vB false), C.v (vB (!decide (a0.f2 = b1.f2))) = C.v (vB false), C.v (vB (!decide (a0.f3 = b1.f3))) = C.v (vB false), C.v (vB (!decide (a0.f4 = b1.f4))) = C.v (vB false), C.v (vB (!decide (a0.f5 = b1.f5))) = C.v (vB false), (true : Bool) = true])
                (by kernel_rfl) ⟨vbB h1, vbB h2, vbB h3, vbB h4, vbB h5, vbB h6, rfl, trivial⟩ rfl (fun _ _ h => h)
end F105
namespace F43
/-! laws.eqFlatS -/
noncomputable def K0 := (subC [1, 1, 0, 1, 0] (bod Try.f43) []).2
noncomputable def L0 := (subC [1, 1, 0, 1, 0, 0] (bod Try.f43) []).1
def I0 (a2 : List T131) (b3 : List T131) (i4 : Int) : TL := ⟨27, [C.dead, C.dead], [(0, C.v (vS eT131 a2)), (1, C.v (vS eT131 b3)), (5, C.v (vI .i64 i4))], [], []⟩
def J0_0 (a2 : List T131) (b3 : List T131) (o : Unit) : TL := ⟨27, [C.dead, C.dead], [(4, C.v (vB false))], [], []⟩
def J0_1 (a2 : List T131) (b3 : List T131) (o : Unit) : TL := ⟨27, [C.dead, C.dead], [], [], []⟩
def Q0 (a2 : List T131) (b3 : List T131) (r : Unit ⊕ Unit) (e : Exit) (st : St) : Prop := (Sum.elim (fun o => e = .ret ∧ Le st (J0_0 a2 b3 o).sl.st) (fun o => e = (.exit 0) ∧ Le st (J0_1 a2 b3 o).sl.st)) r
def p0 (fuel : Nat) (a2 : List T131) (b3 : List T131) : Nat → Int → Option (Unit ⊕ Unit)
  | 0, _ => none
  | n + 1, i4 =>
    cond (decide (i4 < (a2.length : Int)))
    ((idx i4 a2.length).bind fun j6 =>
      (idx i4 b3.length).bind fun j8 =>
      (F105.fn fuel (a2.getD j6 (default : T131)) (b3.getD j8 (default : T131))).bind fun r10 =>
      cond (!r10)
      (some (.inl ()))
      (p0 fuel a2 b3 n (w64 (i4 + 1))))
    (some (.inr ()))
theorem p0_c (fuel : Nat) (a2 : List T131) (b3 : List T131) (n : Nat) (i4 : Int) (r : Unit ⊕ Unit) (h : p0 fuel a2 b3 n i4 = some r) : TW Try.prog (.loop L0) (I0 a2 b3 i4).sl.st (Q0 a2 b3 r) := by
  refine loop_run (σ := Int) (fun x => I0 a2 b3 x) (fun n x => p0 fuel a2 b3 n x) (Q0 a2 b3) ?_ (fun _ => rfl) (x := i4) h
  clear h
  rintro n i4 r h
  replace h : p0 fuel a2 b3 (n + 1) i4 = some r := h
  rw [p0] at h
  rcases cond_cases h with ⟨h5, h⟩ | ⟨h5, h⟩
  · 
    obtain ⟨j6, h7, h⟩ := bind_cases h
    obtain ⟨j8, h9, h⟩ := bind_cases h
    obtain ⟨r10, h11, h⟩ := bind_cases h
    rcases cond_cases h with ⟨h12, h⟩ | ⟨h12, h⟩
    · 
      obtain rfl := Option.some.inj h
      exact runAt_S (Q := Round _ (n + 1) _) (n := 100000) (c := (.code L0)) (K := []) (s := (I0 a2 b3 i4).sl) (e := .ret) (t := J0_0 a2 b3 ()) (l := [])
        (hs := [hA, hA, .g (.env 14 (C.v (vB true))), .any [[], [], [], [], [], [], [], [], [], []], .h (.idv j6 (eT131.f (a2.getD j6 (default : T131)) ++ (cs eT131 (a2.drop (j6 + 1))))), hA, .h (.idv j8 (eT131.f (b3.getD j8 (default : T131)) ++ (cs eT131 (b3.drop (j8 + 1))))), hA, .call ⟨[.ro, .ro], 9, [], true, [], (vB r10), [], 0⟩, hA, .g (.env 26 (C.v (vB true)))])
        (ps := [C.v (vB (decide (i4 < (a2.length : Int)))) = C.v (vB true), i4 = (j6 : Int), j6 < a2.length, (cs eT131 a2).drop (j6 * 6) = (eT131.f (a2.getD j6 (default : T131)) ++ (cs eT131 (a2.drop (j6 + 1)))), cs eT131 a2 ≠ [], i4 = (j8 : Int), j8 < b3.length, (cs eT131 b3).drop (j8 * 6) = (eT131.f (b3.getD j8 (default : T131)) ++ (cs eT131 (b3.drop (j8 + 1)))), cs eT131 b3 ≠ [], CallOK Try.prog 105 [.ro (.ag [(vI .i64 ((a2.getD j6 (default : T131)).f0)), (vI .i64 ((a2.getD j6 (default : T131)).f1)), (vI .i64 ((a2.getD j6 (default : T131)).f2)), (vI .i64 ((a2.getD j6 (default : T131)).f3)), (vI .i64 ((a2.getD j6 (default : T131)).f4)), (vI .i64 ((a2.getD j6 (default : T131)).f5))]), .ro (.ag [(vI .i64 ((b3.getD j8 (default : T131)).f0)), (vI .i64 ((b3.getD j8 (default : T131)).f1)), (vI .i64 ((b3.getD j8 (default : T131)).f2)), (vI .i64 ((b3.getD j8 (default : T131)).f3)), (vI .i64 ((b3.getD j8 (default : T131)).f4)), (vI .i64 ((b3.getD j8 (default : T131)).f5))])] [] (vB r10), C.v (vB (!r10)) = C.v (vB true), (false : Bool) = false])
        (by kernel_rfl) ⟨vbB h5, (idx_S h7).1, (idx_S h7).2, cs_from (e := eT131) (d := (default : T131)) (idx_S h7).2, cs_ne (e := eT131) (idx_S h7).2 (by decide), (idx_S h9).1, (idx_S h9).2, cs_from (e := eT131) (d := (default : T131)) (idx_S h9).2, cs_ne (e := eT131) (idx_S h9).2 (by decide), F105.fn_c fuel (a2.getD j6 (default : T131)) (b3.getD j8 (default : T131)) _ h11, vbB h12, rfl, trivial⟩ (fun st hl => ⟨rfl, hl⟩)
    · 
      exact runAt_S (Q := Round _ (n + 1) _) (n := 100000) (c := (.code L0)) (K := []) (s := (I0 a2 b3 i4).sl) (e := .normal) (t := I0 a2 b3 (w64 (i4 + 1))) (l := [])
        (hs := [hA, hA, .g (.env 14 (C.v (vB true))), .any [[], [], [], [], [], [], [], [], [], []], .h (.idv j6 (eT131.f (a2.getD j6 (default : T131)) ++ (cs eT131 (a2.drop (j6 + 1))))), hA, .h (.idv j8 (eT131.f (b3.getD j8 (default : T131)) ++ (cs eT131 (b3.drop (j8 + 1))))), hA, .call ⟨[.ro, .ro], 9, [], true, [], (vB r10), [], 0⟩, hA, .g (.env 26 (C.v (vB false))), hA])
        (ps := [C.v (vB (decide (i4 < (a2.length : Int)))) = C.v (vB true), i4 = (j6 : Int), j6 < a2.length, (cs eT131 a2).drop (j6 * 6) = (eT131.f (a2.getD j6 (default : T131)) ++ (cs eT131 (a2.drop (j6 + 1)))), cs eT131 a2 ≠ [], i4 = (j8 : Int), j8 < b3.length, (cs eT131 b3).drop (j8 * 6) = (eT131.f (b3.getD j8 (default : T131)) ++ (cs eT131 (b3.drop (j8 + 1)))), cs eT131 b3 ≠ [], CallOK Try.prog 105 [.ro (.ag [(vI .i64 ((a2.getD j6 (default : T131)).f0)), (vI .i64 ((a2.getD j6 (default : T131)).f1)), (vI .i64 ((a2.getD j6 (default : T131)).f2)), (vI .i64 ((a2.getD j6 (default : T131)).f3)), (vI .i64 ((a2.getD j6 (default : T131)).f4)), (vI .i64 ((a2.getD j6 (default : T131)).f5))]), .ro (.ag [(vI .i64 ((b3.getD j8 (default : T131)).f0)), (vI .i64 ((b3.getD j8 (default : T131)).f1)), (vI .i64 ((b3.getD j8 (default : T131)).f2)), (vI .i64 ((b3.getD j8 (default : T131)).f3)), (vI .i64 ((b3.getD j8 (default : T131)).f4)), (vI .i64 ((b3.getD j8 (default : T131)).f5))])] [] (vB r10), C.v (vB (!r10)) = C.v (vB false), ((vS eT131 a2) : V) = (vS eT131 a2), ((vS eT131 b3) : V) = (vS eT131 b3), (w64 (i4 + 1) : Int) = (w64 (i4 + 1))])
        (by kernel_rfl) ⟨vbB h5, (idx_S h7).1, (idx_S h7).2, cs_from (e := eT131) (d := (default : T131)) (idx_S h7).2, cs_ne (e := eT131) (idx_S h7).2 (by decide), (idx_S h9).1, (idx_S h9).2, cs_from (e := eT131) (d := (default : T131)) (idx_S h9).2, cs_ne (e := eT131) (idx_S h9).2 (by decide), F105.fn_c fuel (a2.getD j6 (default : T131)) (b3.getD j8 (default : T131)) _ h11, vbB h12, rfl, rfl, rfl, trivial⟩ (fun st hl => ⟨n, _, Nat.lt_succ_self n, hl, w64 (i4 + 1), rfl, rfl, h⟩)
  · 
    obtain rfl := Option.some.inj h
    exact runAt_S (Q := Round _ (n + 1) _) (n := 100000) (c := (.code L0)) (K := []) (s := (I0 a2 b3 i4).sl) (e := (.exit 0)) (t := J0_1 a2 b3 ()) (l := [])
      (hs := [hA, hA, .g (.env 14 (C.v (vB false)))])
      (ps := [C.v (vB (decide (i4 < (a2.length : Int)))) = C.v (vB false)])
      (by kernel_rfl) ⟨vbB h5, trivial⟩ (fun st hl => ⟨rfl, hl⟩)
def fn (fuel : Nat) (a0 : List T131) (b1 : List T131) : Option Bool :=
  cond (!decide ((a0.length : Int) = (b1.length : Int)))
  (some false)
  ((p0 fuel a0 b1 fuel (0 : Int)).bind fun r13 =>
    (Sum.elim (fun y15 => some false)
    (fun y16 => some true)) r13)
theorem ent : enterable Try.prog 43 = true := by kernel_rfl
theorem fn_c (fuel : Nat) (a0 : List T131) (b1 : List T131) (r : Bool) (h : fn fuel a0 b1 = some r) : CallOK Try.prog 43 [.ro (vS eT131 a0), .ro (vS eT131 b1)] [] (vB r) := by
  refine contract_run Try.func43 (b := bod Try.f43) rfl ent ?_
  unfold fn at h
  rcases cond_cases h with ⟨h1, h⟩ | ⟨h1, h⟩
  · 
    obtain rfl := Option.some.inj h
    exact runRet_S (r := ⟨Try.f43.results.toList, _, _, _, [], 9⟩) (n := 100000) (c := (.code (bod Try.f43))) (K := [])
      (hs := [hA, hA, hA, .g (.env 10 (C.v (vB true)))])
      (ps := [C.v (vB (!decide ((a0.length : Int) = (b1.length : Int)))) = C.v (vB true), (false : Bool) = false])
      (by kernel_rfl) ⟨vbB h1, rfl, trivial⟩ rfl (fun _ _ h => h)
  · 
    obtain ⟨r13, h14, h⟩ := bind_cases h
    refine runTo_S (n := 100000) (c := (.code (bod Try.f43))) (K := []) (b := (.code (.loop L0))) (K1 := K0) (t := I0 a0 b1 (0 : Int)) (l := [])
      (hs := [hA, hA, hA, .g (.env 10 (C.v (vB false)))])
      (ps := [C.v (vB (!decide ((a0.length : Int) = (b1.length : Int)))) = C.v (vB false), ((vS eT131 a0) : V) = (vS eT131 a0), ((vS eT131 b1) : V) = (vS eT131 b1), (0 : Int) = (0 : Int)])
      (by kernel_rfl) ⟨vbB h1, rfl, rfl, rfl, trivial⟩ (cut_code ?_)
    refine TW.mono_le (p0_c fuel a0 b1 fuel (0 : Int) _ h14) ?_
    rcases r13 with y15 | y16
    · 
      replace h := sum_l h
      rintro e st hq
      obtain ⟨rfl, hl⟩ := hq
      refine ⟨_, hl, ?_⟩
      obtain rfl := Option.some.inj h
      exact runRet_S (r := ⟨Try.f43.results.toList, _, _, _, [], 9⟩) (n := 100000) (c := (.out .ret)) (K := K0) (s := (J0_0 a0 b1 y15).sl)
        (hs := [])
        (ps := [(false : Bool) = false])
        (by kernel_rfl) ⟨rfl, trivial⟩ rfl (fun _ _ h => h)
    · 
      replace h := sum_r h
      rintro e st hq
      obtain ⟨rfl, hl⟩ := hq
      refine ⟨_, hl, ?_⟩
      obtain rfl := Option.some.inj h
      exact runRet_S (r := ⟨Try.f43.results.toList, _, _, _, [], 9⟩) (n := 100000) (c := (.out (.exit 0))) (K := K0) (s := (J0_1 a0 b1 y16).sl)
        (hs := [])
        (ps := [(true : Bool) = true])
        (by kernel_rfl) ⟨rfl, trivial⟩ rfl (fun _ _ h => h)
end F43
namespace F101
/-! laws.eqBlock -/
def fn (fuel : Nat) (a0 : T115) (b1 : T115) : Option Bool :=
  (F43.fn fuel a0.f0 b1.f0).bind fun r1 =>
  cond (!r1)
  (some false)
  (cond (!decide (a0.f1 = b1.f1))
    (some false)
    (cond (!decide (a0.f2 = b1.f2))
      (some false)
      ((F44.fn fuel a0.f3 b1.f3).bind fun r6 =>
        cond (!r6)
        (some false)
        (some true))))
theorem ent : enterable Try.prog 101 = true := by kernel_rfl
theorem fn_c (fuel : Nat) (a0 : T115) (b1 : T115) (r : Bool) (h : fn fuel a0 b1 = some r) : CallOK Try.prog 101 [.ro (.ag (eT115.f a0)), .ro (.ag (eT115.f b1))] [] (vB r) := by
  refine contract_run Try.func101 (b := bod Try.f101) rfl ent ?_
  unfold fn at h
  obtain ⟨r1, h2, h⟩ := bind_cases h
  rcases cond_cases h with ⟨h3, h⟩ | ⟨h3, h⟩
  · 
    obtain rfl := Option.some.inj h
    exact runRet_S (r := ⟨Try.f101.results.toList, _, _, _, [], 9⟩) (n := 100000) (c := (.code (bod Try.f101))) (K := [])
      (hs := [.h (.new 0), .h (.new 1), hA, hA, .call ⟨[.ro, .ro], 9, [], true, [], (vB r1), [], 2⟩, hA, .g (.env 10 (C.v (vB true)))])
      (ps := [CallOK Try.prog 43 [.ro (vS eT131 a0.f0), .ro (vS eT131 b1.f0)] [] (vB r1), C.v (vB (!r1)) = C.v (vB true), (false : Bool) = false])
      (by kernel_rfl) ⟨F43.fn_c fuel a0.f0 b1.f0 _ h2, vbB h3, rfl, trivial⟩ rfl (fun _ _ h => h)
  · 
    rcases cond_cases h with ⟨h4, h⟩ | ⟨h4, h⟩
    · 
      obtain rfl := Option.some.inj h
      exact runRet_S (r := ⟨Try.f101.results.toList, _, _, _, [], 9⟩) (n := 100000) (c := (.code (bod Try.f101))) (K := [])
        (hs := [.h (.new 0), .h (.new 1), hA, hA, .call ⟨[.ro, .ro], 9, [], true, [], (vB r1), [], 2⟩, hA, .g (.env 10 (C.v (vB false))), hA, hA, hA, .g (.env 15 (C.v (vB true)))])
        (ps := [CallOK Try.prog 43 [.ro (vS eT131 a0.f0), .ro (vS eT131 b1.f0)] [] (vB r1), C.v (vB (!r1)) = C.v (vB false), C.v (vB (!decide (a0.f1 = b1.f1))) = C.v (vB true), (false : Bool) = false])
        (by kernel_rfl) ⟨F43.fn_c fuel a0.f0 b1.f0 _ h2, vbB h3, vbB h4, rfl, trivial⟩ rfl (fun _ _ h => h)
    · 
      rcases cond_cases h with ⟨h5, h⟩ | ⟨h5, h⟩
      · 
        obtain rfl := Option.some.inj h
        exact runRet_S (r := ⟨Try.f101.results.toList, _, _, _, [], 9⟩) (n := 100000) (c := (.code (bod Try.f101))) (K := [])
          (hs := [.h (.new 0), .h (.new 1), hA, hA, .call ⟨[.ro, .ro], 9, [], true, [], (vB r1), [], 2⟩, hA, .g (.env 10 (C.v (vB false))), hA, hA, hA, .g (.env 15 (C.v (vB false))), hA, hA, hA, .g (.env 20 (C.v (vB true)))])
          (ps := [CallOK Try.prog 43 [.ro (vS eT131 a0.f0), .ro (vS eT131 b1.f0)] [] (vB r1), C.v (vB (!r1)) = C.v (vB false), C.v (vB (!decide (a0.f1 = b1.f1))) = C.v (vB false), C.v (vB (!decide (a0.f2 = b1.f2))) = C.v (vB true), (false : Bool) = false])
          (by kernel_rfl) ⟨F43.fn_c fuel a0.f0 b1.f0 _ h2, vbB h3, vbB h4, vbB h5, rfl, trivial⟩ rfl (fun _ _ h => h)
      · 
        obtain ⟨r6, h7, h⟩ := bind_cases h
        rcases cond_cases h with ⟨h8, h⟩ | ⟨h8, h⟩
        · 
          obtain rfl := Option.some.inj h
          exact runRet_S (r := ⟨Try.f101.results.toList, _, _, _, [], 9⟩) (n := 100000) (c := (.code (bod Try.f101))) (K := [])
            (hs := [.h (.new 0), .h (.new 1), hA, hA, .call ⟨[.ro, .ro], 9, [], true, [], (vB r1), [], 2⟩, hA, .g (.env 10 (C.v (vB false))), hA, hA, hA, .g (.env 15 (C.v (vB false))), hA, hA, hA, .g (.env 20 (C.v (vB false))), hA, hA, .call ⟨[.ro, .ro], 9, [], true, [], (vB r6), [], 2⟩, hA, .g (.env 26 (C.v (vB true)))])
            (ps := [CallOK Try.prog 43 [.ro (vS eT131 a0.f0), .ro (vS eT131 b1.f0)] [] (vB r1), C.v (vB (!r1)) = C.v (vB false), C.v (vB (!decide (a0.f1 = b1.f1))) = C.v (vB false), C.v (vB (!decide (a0.f2 = b1.f2))) = C.v (vB false), CallOK Try.prog 44 [.ro (vS eJ a0.f3), .ro (vS eJ b1.f3)] [] (vB r6), C.v (vB (!r6)) = C.v (vB true), (false : Bool) = false])
            (by kernel_rfl) ⟨F43.fn_c fuel a0.f0 b1.f0 _ h2, vbB h3, vbB h4, vbB h5, F44.fn_c fuel a0.f3 b1.f3 _ h7, vbB h8, rfl, trivial⟩ rfl (fun _ _ h => h)
        · 
          obtain rfl := Option.some.inj h
          exact runRet_S (r := ⟨Try.f101.results.toList, _, _, _, [], 9⟩) (n := 100000) (c := (.code (bod Try.f101))) (K := [])
            (hs := [.h (.new 0), .h (.new 1), hA, hA, .call ⟨[.ro, .ro], 9, [], true, [], (vB r1), [], 2⟩, hA, .g (.env 10 (C.v (vB false))), hA, hA, hA, .g (.env 15 (C.v (vB false))), hA, hA, hA, .g (.env 20 (C.v (vB false))), hA, hA, .call ⟨[.ro, .ro], 9, [], true, [], (vB r6), [], 2⟩, hA, .g (.env 26 (C.v (vB false)))])
            (ps := [CallOK Try.prog 43 [.ro (vS eT131 a0.f0), .ro (vS eT131 b1.f0)] [] (vB r1), C.v (vB (!r1)) = C.v (vB false), C.v (vB (!decide (a0.f1 = b1.f1))) = C.v (vB false), C.v (vB (!decide (a0.f2 = b1.f2))) = C.v (vB false), CallOK Try.prog 44 [.ro (vS eJ a0.f3), .ro (vS eJ b1.f3)] [] (vB r6), C.v (vB (!r6)) = C.v (vB false), (true : Bool) = true])
            (by kernel_rfl) ⟨F43.fn_c fuel a0.f0 b1.f0 _ h2, vbB h3, vbB h4, vbB h5, F44.fn_c fuel a0.f3 b1.f3 _ h7, vbB h8, rfl, trivial⟩ rfl (fun _ _ h => h)
end F101
namespace F34
/-! laws.eqBlockS -/
noncomputable def K0 := (subC [1, 1, 0, 1, 0] (bod Try.f34) []).2
noncomputable def L0 := (subC [1, 1, 0, 1, 0, 0] (bod Try.f34) []).1
def I0 (a2 : List T115) (b3 : List T115) (i4 : Int) : TL := ⟨27, [C.dead, C.dead], [(0, C.v (vS eT115 a2)), (1, C.v (vS eT115 b3)), (5, C.v (vI .i64 i4))], [], []⟩
def J0_0 (a2 : List T115) (b3 : List T115) (o : Unit) : TL := ⟨27, [C.dead, C.dead], [(4, C.v (vB false))], [], []⟩
def J0_1 (a2 : List T115) (b3 : List T115) (o : Unit) : TL := ⟨27, [C.dead, C.dead], [], [], []⟩
def Q0 (a2 : List T115) (b3 : List T115) (r : Unit ⊕ Unit) (e : Exit) (st : St) : Prop := (Sum.elim (fun o => e = .ret ∧ Le st (J0_0 a2 b3 o).sl.st) (fun o => e = (.exit 0) ∧ Le st (J0_1 a2 b3 o).sl.st)) r
def p0 (fuel : Nat) (a2 : List T115) (b3 : List T115) : Nat → Int → Option (Unit ⊕ Unit)
  | 0, _ => none
  | n + 1, i4 =>
    cond (decide (i4 < (a2.length : Int)))
    ((idx i4 a2.length).bind fun j6 =>
      (idx i4 b3.length).bind fun j8 =>
      (F101.fn fuel (a2.getD j6 (default : T115)) (b3.getD j8 (default : T115))).bind fun r10 =>
      cond (!r10)
      (some (.inl ()))
      (p0 fuel a2 b3 n (w64 (i4 + 1))))
    (some (.inr ()))
theorem p0_c (fuel : Nat) (a2 : List T115) (b3 : List T115) (n : Nat) (i4 : Int) (r : Unit ⊕ Unit) (h : p0 fuel a2 b3 n i4 = some r) : TW Try.prog (.loop L0) (I0 a2 b3 i4).sl.st (Q0 a2 b3 r) := by
  refine loop_run (σ := Int) (fun x => I0 a2 b3 x) (fun n x => p0 fuel a2 b3 n x) (Q0 a2 b3) ?_ (fun _ => rfl) (x := i4) h
  clear h
  rintro n i4 r h
  replace h : p0 fuel a2 b3 (n + 1) i4 = some r := h
  rw [p0] at h
  rcases cond_cases h with ⟨h5, h⟩ | ⟨h5, h⟩
  · 
    obtain ⟨j6, h7, h⟩ := bind_cases h
    obtain ⟨j8, h9, h⟩ := bind_cases h
    obtain ⟨r10, h11, h⟩ := bind_cases h
    rcases cond_cases h with ⟨h12, h⟩ | ⟨h12, h⟩
    · 
      obtain rfl := Option.some.inj h
      exact runAt_S (Q := Round _ (n + 1) _) (n := 100000) (c := (.code L0)) (K := []) (s := (I0 a2 b3 i4).sl) (e := .ret) (t := J0_0 a2 b3 ()) (l := [])
        (hs := [hA, hA, .g (.env 14 (C.v (vB true))), .any [[], [], [], [], [], [], [], [], [], []], .h (.idv j6 (eT115.f (a2.getD j6 (default : T115)) ++ (cs eT115 (a2.drop (j6 + 1))))), hA, .h (.idv j8 (eT115.f (b3.getD j8 (default : T115)) ++ (cs eT115 (b3.drop (j8 + 1))))), hA, .call ⟨[.ro, .ro], 9, [], true, [], (vB r10), [], 0⟩, hA, .g (.env 26 (C.v (vB true)))])
        (ps := [C.v (vB (decide (i4 < (a2.length : Int)))) = C.v (vB true), i4 = (j6 : Int), j6 < a2.length, (cs eT115 a2).drop (j6 * 4) = (eT115.f (a2.getD j6 (default : T115)) ++ (cs eT115 (a2.drop (j6 + 1)))), cs eT115 a2 ≠ [], i4 = (j8 : Int), j8 < b3.length, (cs eT115 b3).drop (j8 * 4) = (eT115.f (b3.getD j8 (default : T115)) ++ (cs eT115 (b3.drop (j8 + 1)))), cs eT115 b3 ≠ [], CallOK Try.prog 101 [.ro (.ag [(vS eT131 ((a2.getD j6 (default : T115)).f0)), (vI .i64 ((a2.getD j6 (default : T115)).f1)), (vI .i64 ((a2.getD j6 (default : T115)).f2)), (vS eJ ((a2.getD j6 (default : T115)).f3))]), .ro (.ag [(vS eT131 ((b3.getD j8 (default : T115)).f0)), (vI .i64 ((b3.getD j8 (default : T115)).f1)), (vI .i64 ((b3.getD j8 (default : T115)).f2)), (vS eJ ((b3.getD j8 (default : T115)).f3))])] [] (vB r10), C.v (vB (!r10)) = C.v (vB true), (false : Bool) = false])
        (by kernel_rfl) ⟨vbB h5, (idx_S h7).1, (idx_S h7).2, cs_from (e := eT115) (d := (default : T115)) (idx_S h7).2, cs_ne (e := eT115) (idx_S h7).2 (by decide), (idx_S h9).1, (idx_S h9).2, cs_from (e := eT115) (d := (default : T115)) (idx_S h9).2, cs_ne (e := eT115) (idx_S h9).2 (by decide), F101.fn_c fuel (a2.getD j6 (default : T115)) (b3.getD j8 (default : T115)) _ h11, vbB h12, rfl, trivial⟩ (fun st hl => ⟨rfl, hl⟩)
    · 
      exact runAt_S (Q := Round _ (n + 1) _) (n := 100000) (c := (.code L0)) (K := []) (s := (I0 a2 b3 i4).sl) (e := .normal) (t := I0 a2 b3 (w64 (i4 + 1))) (l := [])
        (hs := [hA, hA, .g (.env 14 (C.v (vB true))), .any [[], [], [], [], [], [], [], [], [], []], .h (.idv j6 (eT115.f (a2.getD j6 (default : T115)) ++ (cs eT115 (a2.drop (j6 + 1))))), hA, .h (.idv j8 (eT115.f (b3.getD j8 (default : T115)) ++ (cs eT115 (b3.drop (j8 + 1))))), hA, .call ⟨[.ro, .ro], 9, [], true, [], (vB r10), [], 0⟩, hA, .g (.env 26 (C.v (vB false))), hA])
        (ps := [C.v (vB (decide (i4 < (a2.length : Int)))) = C.v (vB true), i4 = (j6 : Int), j6 < a2.length, (cs eT115 a2).drop (j6 * 4) = (eT115.f (a2.getD j6 (default : T115)) ++ (cs eT115 (a2.drop (j6 + 1)))), cs eT115 a2 ≠ [], i4 = (j8 : Int), j8 < b3.length, (cs eT115 b3).drop (j8 * 4) = (eT115.f (b3.getD j8 (default : T115)) ++ (cs eT115 (b3.drop (j8 + 1)))), cs eT115 b3 ≠ [], CallOK Try.prog 101 [.ro (.ag [(vS eT131 ((a2.getD j6 (default : T115)).f0)), (vI .i64 ((a2.getD j6 (default : T115)).f1)), (vI .i64 ((a2.getD j6 (default : T115)).f2)), (vS eJ ((a2.getD j6 (default : T115)).f3))]), .ro (.ag [(vS eT131 ((b3.getD j8 (default : T115)).f0)), (vI .i64 ((b3.getD j8 (default : T115)).f1)), (vI .i64 ((b3.getD j8 (default : T115)).f2)), (vS eJ ((b3.getD j8 (default : T115)).f3))])] [] (vB r10), C.v (vB (!r10)) = C.v (vB false), ((vS eT115 a2) : V) = (vS eT115 a2), ((vS eT115 b3) : V) = (vS eT115 b3), (w64 (i4 + 1) : Int) = (w64 (i4 + 1))])
        (by kernel_rfl) ⟨vbB h5, (idx_S h7).1, (idx_S h7).2, cs_from (e := eT115) (d := (default : T115)) (idx_S h7).2, cs_ne (e := eT115) (idx_S h7).2 (by decide), (idx_S h9).1, (idx_S h9).2, cs_from (e := eT115) (d := (default : T115)) (idx_S h9).2, cs_ne (e := eT115) (idx_S h9).2 (by decide), F101.fn_c fuel (a2.getD j6 (default : T115)) (b3.getD j8 (default : T115)) _ h11, vbB h12, rfl, rfl, rfl, trivial⟩ (fun st hl => ⟨n, _, Nat.lt_succ_self n, hl, w64 (i4 + 1), rfl, rfl, h⟩)
  · 
    obtain rfl := Option.some.inj h
    exact runAt_S (Q := Round _ (n + 1) _) (n := 100000) (c := (.code L0)) (K := []) (s := (I0 a2 b3 i4).sl) (e := (.exit 0)) (t := J0_1 a2 b3 ()) (l := [])
      (hs := [hA, hA, .g (.env 14 (C.v (vB false)))])
      (ps := [C.v (vB (decide (i4 < (a2.length : Int)))) = C.v (vB false)])
      (by kernel_rfl) ⟨vbB h5, trivial⟩ (fun st hl => ⟨rfl, hl⟩)
def fn (fuel : Nat) (a0 : List T115) (b1 : List T115) : Option Bool :=
  cond (!decide ((a0.length : Int) = (b1.length : Int)))
  (some false)
  ((p0 fuel a0 b1 fuel (0 : Int)).bind fun r13 =>
    (Sum.elim (fun y15 => some false)
    (fun y16 => some true)) r13)
theorem ent : enterable Try.prog 34 = true := by kernel_rfl
theorem fn_c (fuel : Nat) (a0 : List T115) (b1 : List T115) (r : Bool) (h : fn fuel a0 b1 = some r) : CallOK Try.prog 34 [.ro (vS eT115 a0), .ro (vS eT115 b1)] [] (vB r) := by
  refine contract_run Try.func34 (b := bod Try.f34) rfl ent ?_
  unfold fn at h
  rcases cond_cases h with ⟨h1, h⟩ | ⟨h1, h⟩
  · 
    obtain rfl := Option.some.inj h
    exact runRet_S (r := ⟨Try.f34.results.toList, _, _, _, [], 9⟩) (n := 100000) (c := (.code (bod Try.f34))) (K := [])
      (hs := [hA, hA, hA, .g (.env 10 (C.v (vB true)))])
      (ps := [C.v (vB (!decide ((a0.length : Int) = (b1.length : Int)))) = C.v (vB true), (false : Bool) = false])
      (by kernel_rfl) ⟨vbB h1, rfl, trivial⟩ rfl (fun _ _ h => h)
  · 
    obtain ⟨r13, h14, h⟩ := bind_cases h
    refine runTo_S (n := 100000) (c := (.code (bod Try.f34))) (K := []) (b := (.code (.loop L0))) (K1 := K0) (t := I0 a0 b1 (0 : Int)) (l := [])
      (hs := [hA, hA, hA, .g (.env 10 (C.v (vB false)))])
      (ps := [C.v (vB (!decide ((a0.length : Int) = (b1.length : Int)))) = C.v (vB false), ((vS eT115 a0) : V) = (vS eT115 a0), ((vS eT115 b1) : V) = (vS eT115 b1), (0 : Int) = (0 : Int)])
      (by kernel_rfl) ⟨vbB h1, rfl, rfl, rfl, trivial⟩ (cut_code ?_)
    refine TW.mono_le (p0_c fuel a0 b1 fuel (0 : Int) _ h14) ?_
    rcases r13 with y15 | y16
    · 
      replace h := sum_l h
      rintro e st hq
      obtain ⟨rfl, hl⟩ := hq
      refine ⟨_, hl, ?_⟩
      obtain rfl := Option.some.inj h
      exact runRet_S (r := ⟨Try.f34.results.toList, _, _, _, [], 9⟩) (n := 100000) (c := (.out .ret)) (K := K0) (s := (J0_0 a0 b1 y15).sl)
        (hs := [])
        (ps := [(false : Bool) = false])
        (by kernel_rfl) ⟨rfl, trivial⟩ rfl (fun _ _ h => h)
    · 
      replace h := sum_r h
      rintro e st hq
      obtain ⟨rfl, hl⟩ := hq
      refine ⟨_, hl, ?_⟩
      obtain rfl := Option.some.inj h
      exact runRet_S (r := ⟨Try.f34.results.toList, _, _, _, [], 9⟩) (n := 100000) (c := (.out (.exit 0))) (K := K0) (s := (J0_1 a0 b1 y16).sl)
        (hs := [])
        (ps := [(true : Bool) = true])
        (by kernel_rfl) ⟨rfl, trivial⟩ rfl (fun _ _ h => h)
end F34
end Go.Eng
