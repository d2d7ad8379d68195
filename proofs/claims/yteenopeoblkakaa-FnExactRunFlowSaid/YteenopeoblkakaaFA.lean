/-
  The functions that the law reaches, each as a plain function over lists and numbers, and each one's contract: where the plain function answers, the code returns that answer. Conditions: none beyond what each contract says.
-/
import Derived.Test.YteenopeoblkakaaEC
import Derived.Test.YteenopeoblkakaaProg
import Derived.KernelRfl
set_option linter.unusedVariables false
set_option linter.unusedSimpArgs false
set_option linter.unnecessarySimpa false
set_option linter.unusedVariables false
set_option linter.unusedSimpArgs false
set_option maxRecDepth 100000
set_option maxHeartbeats 1000000
namespace Go.Eng
open Go.Proofs
/-- laws.Flat -/
structure T131 where
  f0 : Int
  f1 : Int
  f2 : Int
  f3 : Int
  f4 : Int
  f5 : Int
instance : Inhabited T131 := ⟨⟨(0 : Int), (0 : Int), (0 : Int), (0 : Int), (0 : Int), (0 : Int)⟩⟩
def eT131 : Enc T131 := ⟨6, fun x => [(vI .i64 x.f0), (vI .i64 x.f1), (vI .i64 x.f2), (vI .i64 x.f3), (vI .i64 x.f4), (vI .i64 x.f5)], fun _ => rfl⟩
def T131.s0 (x : T131) (v : Int) : T131 := ⟨v, x.f1, x.f2, x.f3, x.f4, x.f5⟩
def T131.s1 (x : T131) (v : Int) : T131 := ⟨x.f0, v, x.f2, x.f3, x.f4, x.f5⟩
def T131.s2 (x : T131) (v : Int) : T131 := ⟨x.f0, x.f1, v, x.f3, x.f4, x.f5⟩
def T131.s3 (x : T131) (v : Int) : T131 := ⟨x.f0, x.f1, x.f2, v, x.f4, x.f5⟩
def T131.s4 (x : T131) (v : Int) : T131 := ⟨x.f0, x.f1, x.f2, x.f3, v, x.f5⟩
def T131.s5 (x : T131) (v : Int) : T131 := ⟨x.f0, x.f1, x.f2, x.f3, x.f4, v⟩
instance : OneE eT131 := ⟨fun _ => rfl⟩
instance : SCE eT131 := ⟨fun _ => rfl⟩
instance : NI eT131 := ⟨fun x => by simp [eT131, noImL, noIm]⟩
/-- laws.Block -/
structure T115 where
  f0 : List T131
  f1 : Int
  f2 : Int
  f3 : List Int
instance : Inhabited T115 := ⟨⟨([] : List T131), (0 : Int), (0 : Int), ([] : List Int)⟩⟩
def eT115 : Enc T115 := ⟨4, fun x => [(vS eT131 x.f0), (vI .i64 x.f1), (vI .i64 x.f2), (vS (eI .i64) x.f3)], fun _ => rfl⟩
def T115.s0 (x : T115) (v : List T131) : T115 := ⟨v, x.f1, x.f2, x.f3⟩
def T115.s1 (x : T115) (v : Int) : T115 := ⟨x.f0, v, x.f2, x.f3⟩
def T115.s2 (x : T115) (v : Int) : T115 := ⟨x.f0, x.f1, v, x.f3⟩
def T115.s3 (x : T115) (v : List Int) : T115 := ⟨x.f0, x.f1, x.f2, v⟩
instance : OneE eT115 := ⟨fun _ => rfl⟩
instance : NI eT115 := ⟨fun x => by simp [eT115, noImL, noIm, noImL_cs]⟩
/-- laws.State -/
structure T44 where
  f0 : List Int
  f1 : List Int
  f2 : List Int
instance : Inhabited T44 := ⟨⟨([] : List Int), ([] : List Int), ([] : List Int)⟩⟩
def eT44 : Enc T44 := ⟨3, fun x => [(vS (eI .i64) x.f0), (vS (eI .i64) x.f1), (vS (eI .i64) x.f2)], fun _ => rfl⟩
def T44.s0 (x : T44) (v : List Int) : T44 := ⟨v, x.f1, x.f2⟩
def T44.s1 (x : T44) (v : List Int) : T44 := ⟨x.f0, v, x.f2⟩
def T44.s2 (x : T44) (v : List Int) : T44 := ⟨x.f0, x.f1, v⟩
instance : OneE eT44 := ⟨fun _ => rfl⟩
instance : NI eT44 := ⟨fun x => by simp [eT44, noImL, noIm, noImL_cs]⟩
/-- impl.fields -/
structure T243 where
  f0 : Bool
  f1 : Bool
  f2 : Bool
  f3 : Bool
  f4 : Bool
instance : Inhabited T243 := ⟨⟨false, false, false, false, false⟩⟩
def eT243 : Enc T243 := ⟨5, fun x => [(vB x.f0), (vB x.f1), (vB x.f2), (vB x.f3), (vB x.f4)], fun _ => rfl⟩
def T243.s0 (x : T243) (v : Bool) : T243 := ⟨v, x.f1, x.f2, x.f3, x.f4⟩
def T243.s1 (x : T243) (v : Bool) : T243 := ⟨x.f0, v, x.f2, x.f3, x.f4⟩
def T243.s2 (x : T243) (v : Bool) : T243 := ⟨x.f0, x.f1, v, x.f3, x.f4⟩
def T243.s3 (x : T243) (v : Bool) : T243 := ⟨x.f0, x.f1, x.f2, v, x.f4⟩
def T243.s4 (x : T243) (v : Bool) : T243 := ⟨x.f0, x.f1, x.f2, x.f3, v⟩
instance : OneE eT243 := ⟨fun _ => rfl⟩
instance : SCE eT243 := ⟨fun _ => rfl⟩
instance : NI eT243 := ⟨fun x => by simp [eT243, noImL, noIm]⟩
namespace F38
/-! laws.szFlatS -/
def fn (fuel : Nat) (a0 : List T131) (left1 : Int) : Option Int :=
  cond (decide (w64 (left1 - (a0.length : Int)) < 0))
  (some (-1))
  (some (w64 (left1 - (a0.length : Int))))
theorem ent : enterable Try.prog 38 = true := by kernel_rfl
theorem fn_c (fuel : Nat) (a0 : List T131) (left1 : Int) (r : Int) (h : fn fuel a0 left1 = some r) : CallOK Try.prog 38 [.ro (vS eT131 a0), .ro (vI .i64 left1)] [] (vI .i64 r) := by
  refine contract_run Try.func38 (b := bod Try.f38) rfl ent ?_
  unfold fn at h
  rcases cond_cases h with ⟨h1, h⟩ | ⟨h1, h⟩
  · 
    obtain rfl := Option.some.inj h
    exact runRet_S (r := ⟨Try.f38.results.toList, _, _, _, [], 9⟩) (n := 100000) (c := (.code (bod Try.f38))) (K := [])
      (hs := [hA, hA, hA, .g (.env 10 (C.v (vB true)))])
      (ps := [C.v (vB (decide (w64 (left1 - (a0.length : Int)) < 0))) = C.v (vB true), ((-1) : Int) = (-1)])
      (by kernel_rfl) ⟨vbB h1, rfl, trivial⟩ rfl (fun _ _ h => h)
  · 
    obtain rfl := Option.some.inj h
    exact runRet_S (r := ⟨Try.f38.results.toList, _, _, _, [], 9⟩) (n := 100000) (c := (.code (bod Try.f38))) (K := [])
      (hs := [hA, hA, hA, .g (.env 10 (C.v (vB false)))])
      (ps := [C.v (vB (decide (w64 (left1 - (a0.length : Int)) < 0))) = C.v (vB false), (w64 (left1 - (a0.length : Int)) : Int) = (w64 (left1 - (a0.length : Int)))])
      (by kernel_rfl) ⟨vbB h1, rfl, trivial⟩ rfl (fun _ _ h => h)
end F38
namespace F90
/-! laws.szIntS -/
def fn (fuel : Nat) (a0 : List Int) (left1 : Int) : Option Int :=
  cond (decide (w64 (left1 - (a0.length : Int)) < 0))
  (some (-1))
  (some (w64 (left1 - (a0.length : Int))))
theorem ent : enterable Try.prog 90 = true := by kernel_rfl
theorem fn_c (fuel : Nat) (a0 : List Int) (left1 : Int) (r : Int) (h : fn fuel a0 left1 = some r) : CallOK Try.prog 90 [.ro (vS eJ a0), .ro (vI .i64 left1)] [] (vI .i64 r) := by
  refine contract_run Try.func90 (b := bod Try.f90) rfl ent ?_
  unfold fn at h
  rcases cond_cases h with ⟨h1, h⟩ | ⟨h1, h⟩
  · 
    obtain rfl := Option.some.inj h
    exact runRet_S (r := ⟨Try.f90.results.toList, _, _, _, [], 9⟩) (n := 100000) (c := (.code (bod Try.f90))) (K := [])
      (hs := [hA, hA, hA, .g (.env 10 (C.v (vB true)))])
      (ps := [C.v (vB (decide (w64 (left1 - (a0.length : Int)) < 0))) = C.v (vB true), ((-1) : Int) = (-1)])
      (by kernel_rfl) ⟨vbB h1, rfl, trivial⟩ rfl (fun _ _ h => h)
  · 
    obtain rfl := Option.some.inj h
    exact runRet_S (r := ⟨Try.f90.results.toList, _, _, _, [], 9⟩) (n := 100000) (c := (.code (bod Try.f90))) (K := [])
      (hs := [hA, hA, hA, .g (.env 10 (C.v (vB false)))])
      (ps := [C.v (vB (decide (w64 (left1 - (a0.length : Int)) < 0))) = C.v (vB false), (w64 (left1 - (a0.length : Int)) : Int) = (w64 (left1 - (a0.length : Int)))])
      (by kernel_rfl) ⟨vbB h1, rfl, trivial⟩ rfl (fun _ _ h => h)
end F90
namespace F89
/-! laws.szBlock -/
def fn (fuel : Nat) (a0 : T115) (left1 : Int) : Option Int :=
  (F38.fn fuel a0.f0 left1).bind fun r1 =>
  cond (decide (r1 < 0))
  (some (-1))
  ((F90.fn fuel a0.f3 r1).bind fun r4 =>
    cond (decide (r4 < 0))
    (some (-1))
    (some r4))
theorem ent : enterable Try.prog 89 = true := by kernel_rfl
theorem fn_c (fuel : Nat) (a0 : T115) (left1 : Int) (r : Int) (h : fn fuel a0 left1 = some r) : CallOK Try.prog 89 [.ro (.ag (eT115.f a0)), .ro (vI .i64 left1)] [] (vI .i64 r) := by
  refine contract_run Try.func89 (b := bod Try.f89) rfl ent ?_
  unfold fn at h
  obtain ⟨r1, h2, h⟩ := bind_cases h
  rcases cond_cases h with ⟨h3, h⟩ | ⟨h3, h⟩
  · 
    obtain rfl := Option.some.inj h
    exact runRet_S (r := ⟨Try.f89.results.toList, _, _, _, [], 9⟩) (n := 100000) (c := (.code (bod Try.f89))) (K := [])
      (hs := [.h (.new 0), hA, .call ⟨[.ro, .ro], 9, [], true, [], (vI .i64 r1), [], 1⟩, hA, .g (.env 10 (C.v (vB true)))])
      (ps := [CallOK Try.prog 38 [.ro (vS eT131 a0.f0), .ro (vI .i64 left1)] [] (vI .i64 r1), C.v (vB (decide (r1 < 0))) = C.v (vB true), ((-1) : Int) = (-1)])
      (by kernel_rfl) ⟨F38.fn_c fuel a0.f0 left1 _ h2, vbB h3, rfl, trivial⟩ rfl (fun _ _ h => h)
  · 
    obtain ⟨r4, h5, h⟩ := bind_cases h
    rcases cond_cases h with ⟨h6, h⟩ | ⟨h6, h⟩
    · 
      obtain rfl := Option.some.inj h
      exact runRet_S (r := ⟨Try.f89.results.toList, _, _, _, [], 9⟩) (n := 100000) (c := (.code (bod Try.f89))) (K := [])
        (hs := [.h (.new 0), hA, .call ⟨[.ro, .ro], 9, [], true, [], (vI .i64 r1), [], 1⟩, hA, .g (.env 10 (C.v (vB false))), hA, .call ⟨[.ro, .ro], 9, [], true, [], (vI .i64 r4), [], 1⟩, hA, .g (.env 16 (C.v (vB true)))])
        (ps := [CallOK Try.prog 38 [.ro (vS eT131 a0.f0), .ro (vI .i64 left1)] [] (vI .i64 r1), C.v (vB (decide (r1 < 0))) = C.v (vB false), CallOK Try.prog 90 [.ro (vS eJ a0.f3), .ro (vI .i64 r1)] [] (vI .i64 r4), C.v (vB (decide (r4 < 0))) = C.v (vB true), ((-1) : Int) = (-1)])
        (by kernel_rfl) ⟨F38.fn_c fuel a0.f0 left1 _ h2, vbB h3, F90.fn_c fuel a0.f3 r1 _ h5, vbB h6, rfl, trivial⟩ rfl (fun _ _ h => h)
    · 
      obtain rfl := Option.some.inj h
      exact runRet_S (r := ⟨Try.f89.results.toList, _, _, _, [], 9⟩) (n := 100000) (c := (.code (bod Try.f89))) (K := [])
        (hs := [.h (.new 0), hA, .call ⟨[.ro, .ro], 9, [], true, [], (vI .i64 r1), [], 1⟩, hA, .g (.env 10 (C.v (vB false))), hA, .call ⟨[.ro, .ro], 9, [], true, [], (vI .i64 r4), [], 1⟩, hA, .g (.env 16 (C.v (vB false)))])
        (ps := [CallOK Try.prog 38 [.ro (vS eT131 a0.f0), .ro (vI .i64 left1)] [] (vI .i64 r1), C.v (vB (decide (r1 < 0))) = C.v (vB false), CallOK Try.prog 90 [.ro (vS eJ a0.f3), .ro (vI .i64 r1)] [] (vI .i64 r4), C.v (vB (decide (r4 < 0))) = C.v (vB false), (r4 : Int) = r4])
        (by kernel_rfl) ⟨F38.fn_c fuel a0.f0 left1 _ h2, vbB h3, F90.fn_c fuel a0.f3 r1 _ h5, vbB h6, rfl, trivial⟩ rfl (fun _ _ h => h)
end F89
namespace F27
/-! laws.szBlockS -/
noncomputable def K0 := (subC [1, 1, 1, 0, 1, 0] (bod Try.f27) []).2
noncomputable def L0 := (subC [1, 1, 1, 0, 1, 0, 0] (bod Try.f27) []).1
def I0 (a2 : List T115) (left3 : Int) (i4 : Int) : TL := ⟨27, [C.dead, C.dead], [(0, C.v (vS eT115 a2)), (1, C.v (vI .i64 left3)), (5, C.v (vI .i64 i4))], [], []⟩
def J0_0 (a2 : List T115) (o : Unit) : TL := ⟨27, [C.dead, C.dead], [(4, C.v (vI .i64 (-1)))], [], []⟩
def J0_1 (a2 : List T115) (o : Int) : TL := ⟨27, [C.dead, C.dead], [(1, C.v (vI .i64 o))], [], []⟩
def Q0 (a2 : List T115) (r : Unit ⊕ Int) (e : Exit) (st : St) : Prop := (Sum.elim (fun o => e = .ret ∧ Le st (J0_0 a2 o).sl.st) (fun o => e = (.exit 0) ∧ Le st (J0_1 a2 o).sl.st)) r
def p0 (fuel : Nat) (a2 : List T115) : Nat → Int → Int → Option (Unit ⊕ Int)
  | 0, _, _ => none
  | n + 1, left3, i4 =>
    cond (decide (i4 < (a2.length : Int)))
    ((idx i4 a2.length).bind fun j6 =>
      (F89.fn fuel (a2.getD j6 (default : T115)) left3).bind fun r8 =>
      cond (decide (r8 < 0))
      (some (.inl ()))
      (p0 fuel a2 n r8 (w64 (i4 + 1))))
    (some (.inr left3))
theorem p0_c (fuel : Nat) (a2 : List T115) (n : Nat) (left3 : Int) (i4 : Int) (r : Unit ⊕ Int) (h : p0 fuel a2 n left3 i4 = some r) : TW Try.prog (.loop L0) (I0 a2 left3 i4).sl.st (Q0 a2 r) := by
  refine loop_run (σ := Int × Int) (fun x => I0 a2 x.1 x.2) (fun n x => p0 fuel a2 n x.1 x.2) (Q0 a2) ?_ (fun _ => rfl) (x := (left3, i4)) h
  clear h
  rintro n ⟨left3, i4⟩ r h
  replace h : p0 fuel a2 (n + 1) left3 i4 = some r := h
  rw [p0] at h
  rcases cond_cases h with ⟨h5, h⟩ | ⟨h5, h⟩
  · 
    obtain ⟨j6, h7, h⟩ := bind_cases h
    obtain ⟨r8, h9, h⟩ := bind_cases h
    rcases cond_cases h with ⟨h10, h⟩ | ⟨h10, h⟩
    · 
      obtain rfl := Option.some.inj h
      exact runAt_S (Q := Round _ (n + 1) _) (n := 100000) (c := (.code L0)) (K := []) (s := (I0 a2 left3 i4).sl) (e := .ret) (t := J0_0 a2 ()) (l := [])
        (hs := [hA, hA, .g (.env 15 (C.v (vB true))), .h (.idv j6 (eT115.f (a2.getD j6 (default : T115)) ++ (cs eT115 (a2.drop (j6 + 1))))), hA, .call ⟨[.ro, .ro], 9, [], true, [], (vI .i64 r8), [], 0⟩, hA, .g (.env 25 (C.v (vB true)))])
        (ps := [C.v (vB (decide (i4 < (a2.length : Int)))) = C.v (vB true), i4 = (j6 : Int), j6 < a2.length, (cs eT115 a2).drop (j6 * 4) = (eT115.f (a2.getD j6 (default : T115)) ++ (cs eT115 (a2.drop (j6 + 1)))), cs eT115 a2 ≠ [], CallOK Try.prog 89 [.ro (.ag [(vS eT131 ((a2.getD j6 (default : T115)).f0)), (vI .i64 ((a2.getD j6 (default : T115)).f1)), (vI .i64 ((a2.getD j6 (default : T115)).f2)), (vS eJ ((a2.getD j6 (default : T115)).f3))]), .ro (vI .i64 left3)] [] (vI .i64 r8), C.v (vB (decide (r8 < 0))) = C.v (vB true), ((-1) : Int) = (-1)])
        (by kernel_rfl) ⟨vbB h5, (idx_S h7).1, (idx_S h7).2, cs_from (e := eT115) (d := (default : T115)) (idx_S h7).2, cs_ne (e := eT115) (idx_S h7).2 (by decide), F89.fn_c fuel (a2.getD j6 (default : T115)) left3 _ h9, vbB h10, rfl, trivial⟩ (fun st hl => ⟨rfl, hl⟩)
    · 
      exact runAt_S (Q := Round _ (n + 1) _) (n := 100000) (c := (.code L0)) (K := []) (s := (I0 a2 left3 i4).sl) (e := .normal) (t := I0 a2 r8 (w64 (i4 + 1))) (l := [])
        (hs := [hA, hA, .g (.env 15 (C.v (vB true))), .h (.idv j6 (eT115.f (a2.getD j6 (default : T115)) ++ (cs eT115 (a2.drop (j6 + 1))))), hA, .call ⟨[.ro, .ro], 9, [], true, [], (vI .i64 r8), [], 0⟩, hA, .g (.env 25 (C.v (vB false))), hA])
        (ps := [C.v (vB (decide (i4 < (a2.length : Int)))) = C.v (vB true), i4 = (j6 : Int), j6 < a2.length, (cs eT115 a2).drop (j6 * 4) = (eT115.f (a2.getD j6 (default : T115)) ++ (cs eT115 (a2.drop (j6 + 1)))), cs eT115 a2 ≠ [], CallOK Try.prog 89 [.ro (.ag [(vS eT131 ((a2.getD j6 (default : T115)).f0)), (vI .i64 ((a2.getD j6 (default : T115)).f1)), (vI .i64 ((a2.getD j6 (default : T115)).f2)), (vS eJ ((a2.getD j6 (default : T115)).f3))]), .ro (vI .i64 left3)] [] (vI .i64 r8), C.v (vB (decide (r8 < 0))) = C.v (vB false), ((vS eT115 a2) : V) = (vS eT115 a2), (r8 : Int) = r8, (w64 (i4 + 1) : Int) = (w64 (i4 + 1))])
        (by kernel_rfl) ⟨vbB h5, (idx_S h7).1, (idx_S h7).2, cs_from (e := eT115) (d := (default : T115)) (idx_S h7).2, cs_ne (e := eT115) (idx_S h7).2 (by decide), F89.fn_c fuel (a2.getD j6 (default : T115)) left3 _ h9, vbB h10, rfl, rfl, rfl, trivial⟩ (fun st hl => ⟨n, _, Nat.lt_succ_self n, hl, (r8, w64 (i4 + 1)), rfl, rfl, h⟩)
  · 
    obtain rfl := Option.some.inj h
    exact runAt_S (Q := Round _ (n + 1) _) (n := 100000) (c := (.code L0)) (K := []) (s := (I0 a2 left3 i4).sl) (e := (.exit 0)) (t := J0_1 a2 left3) (l := [])
      (hs := [hA, hA, .g (.env 15 (C.v (vB false)))])
      (ps := [C.v (vB (decide (i4 < (a2.length : Int)))) = C.v (vB false), (left3 : Int) = left3])
      (by kernel_rfl) ⟨vbB h5, rfl, trivial⟩ (fun st hl => ⟨rfl, hl⟩)
def fn (fuel : Nat) (a0 : List T115) (left1 : Int) : Option Int :=
  cond (decide (w64 (left1 - (a0.length : Int)) < 0))
  (some (-1))
  ((p0 fuel a0 fuel (w64 (left1 - (a0.length : Int))) (0 : Int)).bind fun r11 =>
    (Sum.elim (fun y13 => some (-1))
    (fun y14 => some y14)) r11)
theorem ent : enterable Try.prog 27 = true := by kernel_rfl
theorem fn_c (fuel : Nat) (a0 : List T115) (left1 : Int) (r : Int) (h : fn fuel a0 left1 = some r) : CallOK Try.prog 27 [.ro (vS eT115 a0), .ro (vI .i64 left1)] [] (vI .i64 r) := by
  refine contract_run Try.func27 (b := bod Try.f27) rfl ent ?_
  unfold fn at h
  rcases cond_cases h with ⟨h1, h⟩ | ⟨h1, h⟩
  · 
    obtain rfl := Option.some.inj h
    exact runRet_S (r := ⟨Try.f27.results.toList, _, _, _, [], 9⟩) (n := 100000) (c := (.code (bod Try.f27))) (K := [])
      (hs := [hA, hA, hA, .g (.env 11 (C.v (vB true)))])
      (ps := [C.v (vB (decide (w64 (left1 - (a0.length : Int)) < 0))) = C.v (vB true), ((-1) : Int) = (-1)])
      (by kernel_rfl) ⟨vbB h1, rfl, trivial⟩ rfl (fun _ _ h => h)
  · 
    obtain ⟨r11, h12, h⟩ := bind_cases h
    refine runTo_S (n := 100000) (c := (.code (bod Try.f27))) (K := []) (b := (.code (.loop L0))) (K1 := K0) (t := I0 a0 (w64 (left1 - (a0.length : Int))) (0 : Int)) (l := [])
      (hs := [hA, hA, hA, .g (.env 11 (C.v (vB false)))])
      (ps := [C.v (vB (decide (w64 (left1 - (a0.length : Int)) < 0))) = C.v (vB false), ((vS eT115 a0) : V) = (vS eT115 a0), (w64 (left1 - (a0.length : Int)) : Int) = (w64 (left1 - (a0.length : Int))), (0 : Int) = (0 : Int)])
      (by kernel_rfl) ⟨vbB h1, rfl, rfl, rfl, trivial⟩ (cut_code ?_)
    refine TW.mono_le (p0_c fuel a0 fuel (w64 (left1 - (a0.length : Int))) (0 : Int) _ h12) ?_
    rcases r11 with y13 | y14
    · 
      replace h := sum_l h
      rintro e st hq
      obtain ⟨rfl, hl⟩ := hq
      refine ⟨_, hl, ?_⟩
      obtain rfl := Option.some.inj h
      exact runRet_S (r := ⟨Try.f27.results.toList, _, _, _, [], 9⟩) (n := 100000) (c := (.out .ret)) (K := K0) (s := (J0_0 a0 y13).sl)
        (hs := [])
        (ps := [((-1) : Int) = (-1)])
        (by kernel_rfl) ⟨rfl, trivial⟩ rfl (fun _ _ h => h)
    · 
      replace h := sum_r h
      rintro e st hq
      obtain ⟨rfl, hl⟩ := hq
      refine ⟨_, hl, ?_⟩
      obtain rfl := Option.some.inj h
      exact runRet_S (r := ⟨Try.f27.results.toList, _, _, _, [], 9⟩) (n := 100000) (c := (.out (.exit 0))) (K := K0) (s := (J0_1 a0 y14).sl)
        (hs := [])
        (ps := [(y14 : Int) = y14])
        (by kernel_rfl) ⟨rfl, trivial⟩ rfl (fun _ _ h => h)
end F27
namespace F28
/-! laws.szState -/
def fn (fuel : Nat) (a0 : T44) (left1 : Int) : Option Int :=
  (F90.fn fuel a0.f0 left1).bind fun r1 =>
  cond (decide (r1 < 0))
  (some (-1))
  ((F90.fn fuel a0.f1 r1).bind fun r4 =>
    cond (decide (r4 < 0))
    (some (-1))
    ((F90.fn fuel a0.f2 r4).bind fun r7 =>
      cond (decide (r7 < 0))
      (some (-1))
      (some r7)))
theorem ent : enterable Try.prog 28 = true := by kernel_rfl
theorem fn_c (fuel : Nat) (a0 : T44) (left1 : Int) (r : Int) (h : fn fuel a0 left1 = some r) : CallOK Try.prog 28 [.ro (.ag (eT44.f a0)), .ro (vI .i64 left1)] [] (vI .i64 r) := by
  refine contract_run Try.func28 (b := bod Try.f28) rfl ent ?_
  unfold fn at h
  obtain ⟨r1, h2, h⟩ := bind_cases h
  rcases cond_cases h with ⟨h3, h⟩ | ⟨h3, h⟩
  · 
    obtain rfl := Option.some.inj h
    exact runRet_S (r := ⟨Try.f28.results.toList, _, _, _, [], 9⟩) (n := 100000) (c := (.code (bod Try.f28))) (K := [])
      (hs := [.h (.new 0), hA, .call ⟨[.ro, .ro], 9, [], true, [], (vI .i64 r1), [], 1⟩, hA, .g (.env 10 (C.v (vB true)))])
      (ps := [CallOK Try.prog 90 [.ro (vS eJ a0.f0), .ro (vI .i64 left1)] [] (vI .i64 r1), C.v (vB (decide (r1 < 0))) = C.v (vB true), ((-1) : Int) = (-1)])
      (by kernel_rfl) ⟨F90.fn_c fuel a0.f0 left1 _ h2, vbB h3, rfl, trivial⟩ rfl (fun _ _ h => h)
  · 
    obtain ⟨r4, h5, h⟩ := bind_cases h
    rcases cond_cases h with ⟨h6, h⟩ | ⟨h6, h⟩
    · 
      obtain rfl := Option.some.inj h
      exact runRet_S (r := ⟨Try.f28.results.toList, _, _, _, [], 9⟩) (n := 100000) (c := (.code (bod Try.f28))) (K := [])
        (hs := [.h (.new 0), hA, .call ⟨[.ro, .ro], 9, [], true, [], (vI .i64 r1), [], 1⟩, hA, .g (.env 10 (C.v (vB false))), hA, .call ⟨[.ro, .ro], 9, [], true, [], (vI .i64 r4), [], 1⟩, hA, .g (.env 16 (C.v (vB true)))])
        (ps := [CallOK Try.prog 90 [.ro (vS eJ a0.f0), .ro (vI .i64 left1)] [] (vI .i64 r1), C.v (vB (decide (r1 < 0))) = C.v (vB false), CallOK Try.prog 90 [.ro (vS eJ a0.f1), .ro (vI .i64 r1)] [] (vI .i64 r4), C.v (vB (decide (r4 < 0))) = C.v (vB true), ((-1) : Int) = (-1)])
        (by kernel_rfl) ⟨F90.fn_c fuel a0.f0 left1 _ h2, vbB h3, F90.fn_c fuel a0.f1 r1 _ h5, vbB h6, rfl, trivial⟩ rfl (fun _ _ h => h)
    · 
      obtain ⟨r7, h8, h⟩ := bind_cases h
      rcases cond_cases h with ⟨h9, h⟩ | ⟨h9, h⟩
      · 
        obtain rfl := Option.some.inj h
        exact runRet_S (r := ⟨Try.f28.results.toList, _, _, _, [], 9⟩) (n := 100000) (c := (.code (bod Try.f28))) (K := [])
          (hs := [.h (.new 0), hA, .call ⟨[.ro, .ro], 9, [], true, [], (vI .i64 r1), [], 1⟩, hA, .g (.env 10 (C.v (vB false))), hA, .call ⟨[.ro, .ro], 9, [], true, [], (vI .i64 r4), [], 1⟩, hA, .g (.env 16 (C.v (vB false))), hA, .call ⟨[.ro, .ro], 9, [], true, [], (vI .i64 r7), [], 1⟩, hA, .g (.env 22 (C.v (vB true)))])
          (ps := [CallOK Try.prog 90 [.ro (vS eJ a0.f0), .ro (vI .i64 left1)] [] (vI .i64 r1), C.v (vB (decide (r1 < 0))) = C.v (vB false), CallOK Try.prog 90 [.ro (vS eJ a0.f1), .ro (vI .i64 r1)] [] (vI .i64 r4), C.v (vB (decide (r4 < 0))) = C.v (vB false), CallOK Try.prog 90 [.ro (vS eJ a0.f2), .ro (vI .i64 r4)] [] (vI .i64 r7), C.v (vB (decide (r7 < 0))) = C.v (vB true), ((-1) : Int) = (-1)])
          (by kernel_rfl) ⟨F90.fn_c fuel a0.f0 left1 _ h2, vbB h3, F90.fn_c fuel a0.f1 r1 _ h5, vbB h6, F90.fn_c fuel a0.f2 r4 _ h8, vbB h9, rfl, trivial⟩ rfl (fun _ _ h => h)
      · 
        obtain rfl := Option.some.inj h
        exact runRet_S (r := ⟨Try.f28.results.toList, _, _, _, [], 9⟩) (n := 100000) (c := (.code (bod Try.f28))) (K := [])
          (hs := [.h (.new 0), hA, .call ⟨[.ro, .ro], 9, [], true, [], (vI .i64 r1), [], 1⟩, hA, .g (.env 10 (C.v (vB false))), hA, .call ⟨[.ro, .ro], 9, [], true, [], (vI .i64 r4), [], 1⟩, hA, .g (.env 16 (C.v (vB false))), hA, .call ⟨[.ro, .ro], 9, [], true, [], (vI .i64 r7), [], 1⟩, hA, .g (.env 22 (C.v (vB false)))])
          (ps := [CallOK Try.prog 90 [.ro (vS eJ a0.f0), .ro (vI .i64 left1)] [] (vI .i64 r1), C.v (vB (decide (r1 < 0))) = C.v (vB false), CallOK Try.prog 90 [.ro (vS eJ a0.f1), .ro (vI .i64 r1)] [] (vI .i64 r4), C.v (vB (decide (r4 < 0))) = C.v (vB false), CallOK Try.prog 90 [.ro (vS eJ a0.f2), .ro (vI .i64 r4)] [] (vI .i64 r7), C.v (vB (decide (r7 < 0))) = C.v (vB false), (r7 : Int) = r7])
          (by kernel_rfl) ⟨F90.fn_c fuel a0.f0 left1 _ h2, vbB h3, F90.fn_c fuel a0.f1 r1 _ h5, vbB h6, F90.fn_c fuel a0.f2 r4 _ h8, vbB h9, rfl, trivial⟩ rfl (fun _ _ h => h)
end F28
namespace F151
/-! spec.l1In -/
def fn (fuel : Nat) (n0 : Int) (lo1 : Int) (hi2 : Int) : Option Bool :=
  cond (decide (n0 ≥ lo1))
  (some (decide (n0 ≤ hi2)))
  (some false)
theorem ent : enterable Try.prog 151 = true := by kernel_rfl
theorem fn_c (fuel : Nat) (n0 : Int) (lo1 : Int) (hi2 : Int) (r : Bool) (h : fn fuel n0 lo1 hi2 = some r) : CallOK Try.prog 151 [.ro (vI .i64 n0), .ro (vI .i64 lo1), .ro (vI .i64 hi2)] [] (vB r) := by
  refine contract_run Try.func151 (b := bod Try.f151) rfl ent ?_
  unfold fn at h
  rcases cond_cases h with ⟨h1, h⟩ | ⟨h1, h⟩
  · 
    obtain rfl := Option.some.inj h
    exact runRet_S (r := ⟨Try.f151.results.toList, _, _, _, [], 9⟩) (n := 100000) (c := (.code (bod Try.f151))) (K := [])
      (hs := [hA, .skip, .g (.env 10 (C.v (vB true))), hA])
      (ps := [C.v (vB (decide (n0 ≥ lo1))) = C.v (vB true), (decide (n0 ≤ hi2) : Bool) = (decide (n0 ≤ hi2))])
      (by kernel_rfl) ⟨vbB h1, rfl, trivial⟩ rfl (fun _ _ h => h)
  · 
    obtain rfl := Option.some.inj h
    exact runRet_S (r := ⟨Try.f151.results.toList, _, _, _, [], 9⟩) (n := 100000) (c := (.code (bod Try.f151))) (K := [])
      (hs := [hA, .skip, .g (.env 10 (C.v (vB false)))])
      (ps := [C.v (vB (decide (n0 ≥ lo1))) = C.v (vB false), (false : Bool) = false])
      (by kernel_rfl) ⟨vbB h1, rfl, trivial⟩ rfl (fun _ _ h => h)
end F151
namespace F135
/-! spec.l5Words -/
noncomputable def K0 := (subC [1, 0, 1, 0] (bod Try.f135) []).2
noncomputable def L0 := (subC [1, 0, 1, 0, 0] (bod Try.f135) []).1
def I0 (l1 : List Int) (many2 : Int) (v3 : List Int) (v4 : Int) (v5 : Int) : TL := ⟨21, [C.dead, C.dead], [(0, C.v (vS eJ l1)), (1, C.v (vI .i64 many2)), (7, C.v (vS eJ v3)), (8, C.v (vI .i64 v4)), (9, C.v (vI .i64 v5))], [], []⟩
def J0_0 (l1 : List Int) (many2 : Int) (v3 : List Int) (v4 : Int) (o : Unit) : TL := ⟨21, [C.dead, C.dead], [(4, C.v (vB false))], [], []⟩
def J0_1 (l1 : List Int) (many2 : Int) (v3 : List Int) (v4 : Int) (o : Unit) : TL := ⟨21, [C.dead, C.dead], [(0, C.v (vS eJ l1)), (1, C.v (vI .i64 many2))], [], []⟩
def Q0 (l1 : List Int) (many2 : Int) (v3 : List Int) (v4 : Int) (r : Unit ⊕ Unit) (e : Exit) (st : St) : Prop := (Sum.elim (fun o => e = .ret ∧ Le st (J0_0 l1 many2 v3 v4 o).sl.st) (fun o => e = (.exit 0) ∧ Le st (J0_1 l1 many2 v3 v4 o).sl.st)) r
def p0 (fuel : Nat) (l1 : List Int) (many2 : Int) (v3 : List Int) (v4 : Int) : Nat → Int → Option (Unit ⊕ Unit)
  | 0, _ => none
  | n + 1, v5 =>
    cond (decide (v5 < v4))
    ((idx v5 v3.length).bind fun j7 =>
      (F151.fn fuel (v3.getD j7 (0 : Int)) 0 65535).bind fun r9 =>
      cond (!r9)
      (some (.inl ()))
      (p0 fuel l1 many2 v3 v4 n (w64 (v5 + 1))))
    (some (.inr ()))
theorem p0_c (fuel : Nat) (l1 : List Int) (many2 : Int) (v3 : List Int) (v4 : Int) (n : Nat) (v5 : Int) (r : Unit ⊕ Unit) (h : p0 fuel l1 many2 v3 v4 n v5 = some r) : TW Try.prog (.loop L0) (I0 l1 many2 v3 v4 v5).sl.st (Q0 l1 many2 v3 v4 r) := by
  refine loop_run (σ := Int) (fun x => I0 l1 many2 v3 v4 x) (fun n x => p0 fuel l1 many2 v3 v4 n x) (Q0 l1 many2 v3 v4) ?_ (fun _ => rfl) (x := v5) h
  clear h
  rintro n v5 r h
  replace h : p0 fuel l1 many2 v3 v4 (n + 1) v5 = some r := h
  rw [p0] at h
  rcases cond_cases h with ⟨h6, h⟩ | ⟨h6, h⟩
  · 
    obtain ⟨j7, h8, h⟩ := bind_cases h
    obtain ⟨r9, h10, h⟩ := bind_cases h
    rcases cond_cases h with ⟨h11, h⟩ | ⟨h11, h⟩
    · 
      obtain rfl := Option.some.inj h
      exact runAt_S (Q := Round _ (n + 1) _) (n := 100000) (c := (.code L0)) (K := []) (s := (I0 l1 many2 v3 v4 v5).sl) (e := .ret) (t := J0_0 l1 many2 v3 v4 ()) (l := [])
        (hs := [hA, .g (.env 10 (C.v (vB true))), .h (.idv j7 (eJ.f (v3.getD j7 (0 : Int)) ++ (cs eJ (v3.drop (j7 + 1))))), hA, .call ⟨[.ro, .ro, .ro], 9, [], true, [], (vB r9), [], 0⟩, hA, .g (.env 15 (C.v (vB true)))])
        (ps := [C.v (vB (decide (v5 < v4))) = C.v (vB true), v5 = (j7 : Int), j7 < v3.length, (cs eJ v3).drop (j7 * 1) = (eJ.f (v3.getD j7 (0 : Int)) ++ (cs eJ (v3.drop (j7 + 1)))), cs eJ v3 ≠ [], CallOK Try.prog 151 [.ro (vI .i64 (v3.getD j7 (0 : Int))), .ro (vI .i64 0), .ro (vI .i64 65535)] [] (vB r9), C.v (vB (!r9)) = C.v (vB true), (false : Bool) = false])
        (by kernel_rfl) ⟨vbB h6, (idx_S h8).1, (idx_S h8).2, cs_from (e := eJ) (d := (0 : Int)) (idx_S h8).2, cs_ne (e := eJ) (idx_S h8).2 (by decide), F151.fn_c fuel (v3.getD j7 (0 : Int)) 0 65535 _ h10, vbB h11, rfl, trivial⟩ (fun st hl => ⟨rfl, hl⟩)
    · 
      exact runAt_S (Q := Round _ (n + 1) _) (n := 100000) (c := (.code L0)) (K := []) (s := (I0 l1 many2 v3 v4 v5).sl) (e := .normal) (t := I0 l1 many2 v3 v4 (w64 (v5 + 1))) (l := [])
        (hs := [hA, .g (.env 10 (C.v (vB true))), .h (.idv j7 (eJ.f (v3.getD j7 (0 : Int)) ++ (cs eJ (v3.drop (j7 + 1))))), hA, .call ⟨[.ro, .ro, .ro], 9, [], true, [], (vB r9), [], 0⟩, hA, .g (.env 15 (C.v (vB false))), hA])
        (ps := [C.v (vB (decide (v5 < v4))) = C.v (vB true), v5 = (j7 : Int), j7 < v3.length, (cs eJ v3).drop (j7 * 1) = (eJ.f (v3.getD j7 (0 : Int)) ++ (cs eJ (v3.drop (j7 + 1)))), cs eJ v3 ≠ [], CallOK Try.prog 151 [.ro (vI .i64 (v3.getD j7 (0 : Int))), .ro (vI .i64 0), .ro (vI .i64 65535)] [] (vB r9), C.v (vB (!r9)) = C.v (vB false), ((vS eJ l1) : V) = (vS eJ l1), (many2 : Int) = many2, ((vS eJ v3) : V) = (vS eJ v3), (v4 : Int) = v4, (w64 (v5 + 1) : Int) = (w64 (v5 + 1))])
        (by kernel_rfl) ⟨vbB h6, (idx_S h8).1, (idx_S h8).2, cs_from (e := eJ) (d := (0 : Int)) (idx_S h8).2, cs_ne (e := eJ) (idx_S h8).2 (by decide), F151.fn_c fuel (v3.getD j7 (0 : Int)) 0 65535 _ h10, vbB h11, rfl, rfl, rfl, rfl, rfl, trivial⟩ (fun st hl => ⟨n, _, Nat.lt_succ_self n, hl, w64 (v5 + 1), rfl, rfl, h⟩)
  · 
    obtain rfl := Option.some.inj h
    exact runAt_S (Q := Round _ (n + 1) _) (n := 100000) (c := (.code L0)) (K := []) (s := (I0 l1 many2 v3 v4 v5).sl) (e := (.exit 0)) (t := J0_1 l1 many2 v3 v4 ()) (l := [])
      (hs := [hA, .g (.env 10 (C.v (vB false)))])
      (ps := [C.v (vB (decide (v5 < v4))) = C.v (vB false), ((vS eJ l1) : V) = (vS eJ l1), (many2 : Int) = many2])
      (by kernel_rfl) ⟨vbB h6, rfl, rfl, trivial⟩ (fun st hl => ⟨rfl, hl⟩)
def fn (fuel : Nat) (l0 : List Int) (many1 : Int) : Option Bool :=
  (p0 fuel l0 many1 l0 (l0.length : Int) fuel (0 : Int)).bind fun r12 =>
  (Sum.elim (fun y14 => some false)
  (fun y15 => some (decide ((l0.length : Int) = many1)))) r12
theorem ent : enterable Try.prog 135 = true := by kernel_rfl
theorem fn_c (fuel : Nat) (l0 : List Int) (many1 : Int) (r : Bool) (h : fn fuel l0 many1 = some r) : CallOK Try.prog 135 [.ro (vS eJ l0), .ro (vI .i64 many1)] [] (vB r) := by
  refine contract_run Try.func135 (b := bod Try.f135) rfl ent ?_
  unfold fn at h
  obtain ⟨r12, h13, h⟩ := bind_cases h
  refine runTo_S (n := 100000) (c := (.code (bod Try.f135))) (K := []) (b := (.code (.loop L0))) (K1 := K0) (t := I0 l0 many1 l0 (l0.length : Int) (0 : Int)) (l := [])
    (hs := [hA])
    (ps := [((vS eJ l0) : V) = (vS eJ l0), (many1 : Int) = many1, ((vS eJ l0) : V) = (vS eJ l0), ((l0.length : Int) : Int) = (l0.length : Int), (0 : Int) = (0 : Int)])
    (by kernel_rfl) ⟨rfl, rfl, rfl, rfl, rfl, trivial⟩ (cut_code ?_)
  refine TW.mono_le (p0_c fuel l0 many1 l0 (l0.length : Int) fuel (0 : Int) _ h13) ?_
  rcases r12 with y14 | y15
  · 
    replace h := sum_l h
    rintro e st hq
    obtain ⟨rfl, hl⟩ := hq
    refine ⟨_, hl, ?_⟩
    obtain rfl := Option.some.inj h
    exact runRet_S (r := ⟨Try.f135.results.toList, _, _, _, [], 9⟩) (n := 100000) (c := (.out .ret)) (K := K0) (s := (J0_0 l0 many1 l0 (l0.length : Int) y14).sl)
      (hs := [])
      (ps := [(false : Bool) = false])
      (by kernel_rfl) ⟨rfl, trivial⟩ rfl (fun _ _ h => h)
  · 
    replace h := sum_r h
    rintro e st hq
    obtain ⟨rfl, hl⟩ := hq
    refine ⟨_, hl, ?_⟩
    obtain rfl := Option.some.inj h
    exact runRet_S (r := ⟨Try.f135.results.toList, _, _, _, [], 9⟩) (n := 100000) (c := (.out (.exit 0))) (K := K0) (s := (J0_1 l0 many1 l0 (l0.length : Int) y15).sl)
      (hs := [hA, hA])
      (ps := [(decide ((l0.length : Int) = many1) : Bool) = (decide ((l0.length : Int) = many1))])
      (by kernel_rfl) ⟨rfl, trivial⟩ rfl (fun _ _ h => h)
end F135
namespace F71
/-! spec.GoodState -/
def fn (fuel : Nat) (s0 : T44) : Option Bool :=
  (F135.fn fuel s0.f0 8).bind fun r1 =>
  cond (r1)
  ((F135.fn fuel s0.f1 16).bind fun r4 =>
    cond (r4)
    (cond (decide ((s0.f2.length : Int) ≤ 100))
      ((F135.fn fuel s0.f2 (s0.f2.length : Int)).bind fun r8 =>
        some r8)
      (some false))
    (some false))
  (some false)
theorem ent : enterable Try.prog 71 = true := by kernel_rfl
theorem fn_c (fuel : Nat) (s0 : T44) (r : Bool) (h : fn fuel s0 = some r) : CallOK Try.prog 71 [.ro (.ag (eT44.f s0))] [] (vB r) := by
  refine contract_run Try.func71 (b := bod Try.f71) rfl ent ?_
  unfold fn at h
  obtain ⟨r1, h2, h⟩ := bind_cases h
  rcases cond_cases h with ⟨h3, h⟩ | ⟨h3, h⟩
  · 
    obtain ⟨r4, h5, h⟩ := bind_cases h
    rcases cond_cases h with ⟨h6, h⟩ | ⟨h6, h⟩
    · 
      rcases cond_cases h with ⟨h7, h⟩ | ⟨h7, h⟩
      · 
        obtain ⟨r8, h9, h⟩ := bind_cases h
        obtain rfl := Option.some.inj h
        exact runRet_S (r := ⟨Try.f71.results.toList, _, _, _, [], 9⟩) (n := 100000) (c := (.code (bod Try.f71))) (K := [])
          (hs := [.h (.new 0), hA, .call ⟨[.ro, .ro], 9, [], true, [], (vB r1), [], 1⟩, .skip, .g (.env 6 (C.v (vB true))), hA, .call ⟨[.ro, .ro], 9, [], true, [], (vB r4), [], 1⟩, .skip, .skip, .g (.env 11 (C.v (vB true))), hA, hA, hA, .skip, .skip, .g (.env 17 (C.v (vB true))), hA, hA, hA, .call ⟨[.ro, .ro], 9, [], true, [], (vB r8), [], 1⟩])
          (ps := [CallOK Try.prog 135 [.ro (vS eJ s0.f0), .ro (vI .i64 8)] [] (vB r1), C.v (vB r1) = C.v (vB true), CallOK Try.prog 135 [.ro (vS eJ s0.f1), .ro (vI .i64 16)] [] (vB r4), C.v (vB r4) = C.v (vB true), C.v (vB (decide ((s0.f2.length : Int) ≤ 100))) = C.v (vB true), CallOK Try.prog 135 [.ro (vS eJ s0.f2), .ro (vI .i64 (s0.f2.length : Int))] [] (vB r8), (r8 : Bool) = r8])
          (by kernel_rfl) ⟨F135.fn_c fuel s0.f0 8 _ h2, vbB h3, F135.fn_c fuel s0.f1 16 _ h5, vbB h6, vbB h7, F135.fn_c fuel s0.f2 (s0.f2.length : Int) _ h9, rfl, trivial⟩ rfl (fun _ _ h => h)
      · 
        obtain rfl := Option.some.inj h
        exact runRet_S (r := ⟨Try.f71.results.toList, _, _, _, [], 9⟩) (n := 100000) (c := (.code (bod Try.f71))) (K := [])
          (hs := [.h (.new 0), hA, .call ⟨[.ro, .ro], 9, [], true, [], (vB r1), [], 1⟩, .skip, .g (.env 6 (C.v (vB true))), hA, .call ⟨[.ro, .ro], 9, [], true, [], (vB r4), [], 1⟩, .skip, .skip, .g (.env 11 (C.v (vB true))), hA, hA, hA, .skip, .skip, .g (.env 17 (C.v (vB false)))])
          (ps := [CallOK Try.prog 135 [.ro (vS eJ s0.f0), .ro (vI .i64 8)] [] (vB r1), C.v (vB r1) = C.v (vB true), CallOK Try.prog 135 [.ro (vS eJ s0.f1), .ro (vI .i64 16)] [] (vB r4), C.v (vB r4) = C.v (vB true), C.v (vB (decide ((s0.f2.length : Int) ≤ 100))) = C.v (vB false), (false : Bool) = false])
          (by kernel_rfl) ⟨F135.fn_c fuel s0.f0 8 _ h2, vbB h3, F135.fn_c fuel s0.f1 16 _ h5, vbB h6, vbB h7, rfl, trivial⟩ rfl (fun _ _ h => h)
    · 
      obtain rfl := Option.some.inj h
      exact runRet_S (r := ⟨Try.f71.results.toList, _, _, _, [], 9⟩) (n := 100000) (c := (.code (bod Try.f71))) (K := [])
        (hs := [.h (.new 0), hA, .call ⟨[.ro, .ro], 9, [], true, [], (vB r1), [], 1⟩, .skip, .g (.env 6 (C.v (vB true))), hA, .call ⟨[.ro, .ro], 9, [], true, [], (vB r4), [], 1⟩, .skip, .skip, .g (.env 11 (C.v (vB false)))])
        (ps := [CallOK Try.prog 135 [.ro (vS eJ s0.f0), .ro (vI .i64 8)] [] (vB r1), C.v (vB r1) = C.v (vB true), CallOK Try.prog 135 [.ro (vS eJ s0.f1), .ro (vI .i64 16)] [] (vB r4), C.v (vB r4) = C.v (vB false), (false : Bool) = false])
        (by kernel_rfl) ⟨F135.fn_c fuel s0.f0 8 _ h2, vbB h3, F135.fn_c fuel s0.f1 16 _ h5, vbB h6, rfl, trivial⟩ rfl (fun _ _ h => h)
  · 
    obtain rfl := Option.some.inj h
    exact runRet_S (r := ⟨Try.f71.results.toList, _, _, _, [], 9⟩) (n := 100000) (c := (.code (bod Try.f71))) (K := [])
      (hs := [.h (.new 0), hA, .call ⟨[.ro, .ro], 9, [], true, [], (vB r1), [], 1⟩, .skip, .g (.env 6 (C.v (vB false)))])
      (ps := [CallOK Try.prog 135 [.ro (vS eJ s0.f0), .ro (vI .i64 8)] [] (vB r1), C.v (vB r1) = C.v (vB false), (false : Bool) = false])
      (by kernel_rfl) ⟨F135.fn_c fuel s0.f0 8 _ h2, vbB h3, rfl, trivial⟩ rfl (fun _ _ h => h)
end F71
namespace F212
/-! spec.l6Name -/
def fn (fuel : Nat) (n0 : Int) : Option Bool :=
  (F151.fn fuel n0 0 11).bind fun r1 =>
  some r1
theorem ent : enterable Try.prog 212 = true := by kernel_rfl
theorem fn_c (fuel : Nat) (n0 : Int) (r : Bool) (h : fn fuel n0 = some r) : CallOK Try.prog 212 [.ro (vI .i64 n0)] [] (vB r) := by
  refine contract_run Try.func212 (b := bod Try.f212) rfl ent ?_
  unfold fn at h
  obtain ⟨r1, h2, h⟩ := bind_cases h
  obtain rfl := Option.some.inj h
  exact runRet_S (r := ⟨Try.f212.results.toList, _, _, _, [], 9⟩) (n := 100000) (c := (.code (bod Try.f212))) (K := [])
    (hs := [.call ⟨[.ro, .ro, .ro], 9, [], true, [], (vB r1), [], 0⟩])
    (ps := [CallOK Try.prog 151 [.ro (vI .i64 n0), .ro (vI .i64 0), .ro (vI .i64 11)] [] (vB r1), (r1 : Bool) = r1])
    (by kernel_rfl) ⟨F151.fn_c fuel n0 0 11 _ h2, rfl, trivial⟩ rfl (fun _ _ h => h)
end F212
namespace F169
/-! spec.l6Flat -/
noncomputable def K0 := (subC [1, 0, 0] (bod Try.f169) []).2
noncomputable def B0 := (subC [1, 0, 0] (bod Try.f169) []).1
noncomputable def K1 := (subC [1, 1, 0, 1, 0, 1, 0, 0] (bod Try.f169) []).2
noncomputable def B1 := (subC [1, 1, 0, 1, 0, 1, 0, 0] (bod Try.f169) []).1
noncomputable def K2 := (subC [1, 1, 0, 1, 0, 1, 1, 0, 1] (bod Try.f169) []).2
noncomputable def B2 := (subC [1, 1, 0, 1, 0, 1, 1, 0, 1] (bod Try.f169) []).1
noncomputable def K3 := (subC [1, 1, 0, 1, 0, 1, 1, 1, 0, 0] (bod Try.f169) []).2
noncomputable def B3 := (subC [1, 1, 0, 1, 0, 1, 1, 1, 0, 0] (bod Try.f169) []).1
noncomputable def K4 := (subC [1, 1, 0, 1, 0, 1, 1, 1, 1, 1, 0, 0] (bod Try.f169) []).2
noncomputable def B4 := (subC [1, 1, 0, 1, 0, 1, 1, 1, 1, 1, 0, 0] (bod Try.f169) []).1
noncomputable def K5 := (subC [1, 1, 0, 1, 0, 1, 1, 1, 1, 1, 1, 1, 0, 0] (bod Try.f169) []).2
noncomputable def B5 := (subC [1, 1, 0, 1, 0, 1, 1, 1, 1, 1, 1, 1, 0, 0] (bod Try.f169) []).1
def I0 (x1 : Int) (x2 : Int) (x3 : Int) (x4 : Int) (x5 : Int) (x6 : Int) : TL := ⟨112, [C.dead], [(1, C.pr 0 0)], [], [(0, [C.own (vI .i64 x1), C.own (vI .i64 x2), C.own (vI .i64 x3), C.own (vI .i64 x4), C.own (vI .i64 x5), C.own (vI .i64 x6)])]⟩
def J0_0 (x1 : Int) (x2 : Int) (x3 : Int) (x4 : Int) (x5 : Int) (x6 : Int) (o : Bool) : TL := ⟨112, [C.dead], [(1, C.pr 0 0), (20, C.v (vB o))], [], [(0, [C.own (vI .i64 x1), C.own (vI .i64 x2), C.own (vI .i64 x3), C.own (vI .i64 x4), C.own (vI .i64 x5), C.own (vI .i64 x6)])]⟩
def Q0 (x1 : Int) (x2 : Int) (x3 : Int) (x4 : Int) (x5 : Int) (x6 : Int) (r : Bool) (e : Exit) (st : St) : Prop := (fun o => e = .normal ∧ Le st (J0_0 x1 x2 x3 x4 x5 x6 o).sl.st) r
def p0 (fuel : Nat) (x1 : Int) (x2 : Int) (x3 : Int) (x4 : Int) (x5 : Int) (x6 : Int) : Option Bool :=
  cond (!decide (x1 = 3))
  (cond (!decide (x2 = 0))
    (some true)
    (cond (!decide (x1 = 1))
      (some (!decide (x6 = 0)))
      (some false)))
  (cond (!decide (x1 = 1))
    (some (!decide (x6 = 0)))
    (some false))
theorem p0_c (fuel : Nat) (x1 : Int) (x2 : Int) (x3 : Int) (x4 : Int) (x5 : Int) (x6 : Int) (r : Bool) (h : p0 fuel x1 x2 x3 x4 x5 x6 = some r) : TW Try.prog B0 (I0 x1 x2 x3 x4 x5 x6).sl.st (Q0 x1 x2 x3 x4 x5 x6 r) := by
  unfold p0 at h
  rcases cond_cases h with ⟨h7, h⟩ | ⟨h7, h⟩
  · 
    rcases cond_cases h with ⟨h8, h⟩ | ⟨h8, h⟩
    · 
      obtain rfl := Option.some.inj h
      exact runAt_S (Q := Q0 x1 x2 x3 x4 x5 x6 _) (n := 100000) (c := (.code B0)) (K := []) (s := (I0 x1 x2 x3 x4 x5 x6).sl) (e := .normal) (t := J0_0 x1 x2 x3 x4 x5 x6 true) (l := [(0, 0)])
        (hs := [hA, hA, .skip, .g (.env 6 (C.v (vB true))), hA, hA, .skip, .skip, .g (.env 11 (C.v (vB true)))])
        (ps := [C.v (vB (!decide (x1 = 3))) = C.v (vB true), C.v (vB (!decide (x2 = 0))) = C.v (vB true), 0 = 0, (true : Bool) = true, (x1 : Int) = x1, (x2 : Int) = x2, (x3 : Int) = x3, (x4 : Int) = x4, (x5 : Int) = x5, (x6 : Int) = x6])
        (by kernel_rfl) ⟨vbB h7, vbB h8, rfl, rfl, rfl, rfl, rfl, rfl, rfl, rfl, trivial⟩ (fun st hl => ⟨rfl, hl⟩)
    · 
      rcases cond_cases h with ⟨h9, h⟩ | ⟨h9, h⟩
      · 
        obtain rfl := Option.some.inj h
        exact runAt_S (Q := Q0 x1 x2 x3 x4 x5 x6 _) (n := 100000) (c := (.code B0)) (K := []) (s := (I0 x1 x2 x3 x4 x5 x6).sl) (e := .normal) (t := J0_0 x1 x2 x3 x4 x5 x6 (!decide (x6 = 0))) (l := [(0, 0)])
          (hs := [hA, hA, .skip, .g (.env 6 (C.v (vB true))), hA, hA, .skip, .skip, .g (.env 11 (C.v (vB false))), hA, hA, .skip, .g (.env 15 (C.v (vB true))), hA, hA])
          (ps := [C.v (vB (!decide (x1 = 3))) = C.v (vB true), C.v (vB (!decide (x2 = 0))) = C.v (vB false), C.v (vB (!decide (x1 = 1))) = C.v (vB true), 0 = 0, (!decide (x6 = 0) : Bool) = (!decide (x6 = 0)), (x1 : Int) = x1, (x2 : Int) = x2, (x3 : Int) = x3, (x4 : Int) = x4, (x5 : Int) = x5, (x6 : Int) = x6])
          (by kernel_rfl) ⟨vbB h7, vbB h8, vbB h9, rfl, rfl, rfl, rfl, rfl, rfl, rfl, rfl, trivial⟩ (fun st hl => ⟨rfl, hl⟩)
      · 
        obtain rfl := Option.some.inj h
        exact runAt_S (Q := Q0 x1 x2 x3 x4 x5 x6 _) (n := 100000) (c := (.code B0)) (K := []) (s := (I0 x1 x2 x3 x4 x5 x6).sl) (e := .normal) (t := J0_0 x1 x2 x3 x4 x5 x6 false) (l := [(0, 0)])
          (hs := [hA, hA, .skip, .g (.env 6 (C.v (vB true))), hA, hA, .skip, .skip, .g (.env 11 (C.v (vB false))), hA, hA, .skip, .g (.env 15 (C.v (vB false)))])
          (ps := [C.v (vB (!decide (x1 = 3))) = C.v (vB true), C.v (vB (!decide (x2 = 0))) = C.v (vB false), C.v (vB (!decide (x1 = 1))) = C.v (vB false), 0 = 0, (false : Bool) = false, (x1 : Int) = x1, (x2 : Int) = x2, (x3 : Int) = x3, (x4 : Int) = x4, (x5 : Int) = x5, (x6 : Int) = x6])
          (by kernel_rfl) ⟨vbB h7, vbB h8, vbB h9, rfl, rfl, rfl, rfl, rfl, rfl, rfl, rfl, trivial⟩ (fun st hl => ⟨rfl, hl⟩)
  · 
    rcases cond_cases h with ⟨h10, h⟩ | ⟨h10, h⟩
    · 
      obtain rfl := Option.some.inj h
      exact runAt_S (Q := Q0 x1 x2 x3 x4 x5 x6 _) (n := 100000) (c := (.code B0)) (K := []) (s := (I0 x1 x2 x3 x4 x5 x6).sl) (e := .normal) (t := J0_0 x1 x2 x3 x4 x5 x6 (!decide (x6 = 0))) (l := [(0, 0)])
        (hs := [hA, hA, .skip, .g (.env 6 (C.v (vB false))), hA, hA, .skip, .g (.env 15 (C.v (vB true))), hA, hA])
        (ps := [C.v (vB (!decide (x1 = 3))) = C.v (vB false), C.v (vB (!decide (x1 = 1))) = C.v (vB true), 0 = 0, (!decide (x6 = 0) : Bool) = (!decide (x6 = 0)), (x1 : Int) = x1, (x2 : Int) = x2, (x3 : Int) = x3, (x4 : Int) = x4, (x5 : Int) = x5, (x6 : Int) = x6])
        (by kernel_rfl) ⟨vbB h7, vbB h10, rfl, rfl, rfl, rfl, rfl, rfl, rfl, rfl, trivial⟩ (fun st hl => ⟨rfl, hl⟩)
    · 
      obtain rfl := Option.some.inj h
      exact runAt_S (Q := Q0 x1 x2 x3 x4 x5 x6 _) (n := 100000) (c := (.code B0)) (K := []) (s := (I0 x1 x2 x3 x4 x5 x6).sl) (e := .normal) (t := J0_0 x1 x2 x3 x4 x5 x6 false) (l := [(0, 0)])
        (hs := [hA, hA, .skip, .g (.env 6 (C.v (vB false))), hA, hA, .skip, .g (.env 15 (C.v (vB false)))])
        (ps := [C.v (vB (!decide (x1 = 3))) = C.v (vB false), C.v (vB (!decide (x1 = 1))) = C.v (vB false), 0 = 0, (false : Bool) = false, (x1 : Int) = x1, (x2 : Int) = x2, (x3 : Int) = x3, (x4 : Int) = x4, (x5 : Int) = x5, (x6 : Int) = x6])
        (by kernel_rfl) ⟨vbB h7, vbB h10, rfl, rfl, rfl, rfl, rfl, rfl, rfl, rfl, trivial⟩ (fun st hl => ⟨rfl, hl⟩)
def I1 (x15 : Int) (x16 : Int) (x17 : Int) (x18 : Int) (x19 : Int) (x20 : Int) : TL := ⟨112, [C.dead], [(1, C.pr 0 0)], [], [(0, [C.own (vI .i64 x15), C.own (vI .i64 x16), C.own (vI .i64 x17), C.own (vI .i64 x18), C.own (vI .i64 x19), C.own (vI .i64 x20)])]⟩
def J1_0 (x15 : Int) (x16 : Int) (x17 : Int) (x18 : Int) (x19 : Int) (x20 : Int) (o : Bool) : TL := ⟨112, [C.dead], [(2, C.v (vB o))], [], []⟩
def Q1 (x15 : Int) (x16 : Int) (x17 : Int) (x18 : Int) (x19 : Int) (x20 : Int) (r : Bool) (e : Exit) (st : St) : Prop := (fun o => e = .normal ∧ Le st (J1_0 x15 x16 x17 x18 x19 x20 o).sl.st) r
def p1 (fuel : Nat) (x15 : Int) (x16 : Int) (x17 : Int) (x18 : Int) (x19 : Int) (x20 : Int) : Option Bool :=
  (F212.fn fuel x17).bind fun r21 =>
  cond (r21)
  (cond (decide (x18 = 0))
    (cond (decide (x19 = 0))
      ((F151.fn fuel x20 0 65535).bind fun r26 =>
        some r26)
      (some false))
    (some false))
  (some false)
theorem p1_c (fuel : Nat) (x15 : Int) (x16 : Int) (x17 : Int) (x18 : Int) (x19 : Int) (x20 : Int) (r : Bool) (h : p1 fuel x15 x16 x17 x18 x19 x20 = some r) : TW Try.prog B1 (I1 x15 x16 x17 x18 x19 x20).sl.st (Q1 x15 x16 x17 x18 x19 x20 r) := by
  unfold p1 at h
  obtain ⟨r21, h22, h⟩ := bind_cases h
  rcases cond_cases h with ⟨h23, h⟩ | ⟨h23, h⟩
  · 
    rcases cond_cases h with ⟨h24, h⟩ | ⟨h24, h⟩
    · 
      rcases cond_cases h with ⟨h25, h⟩ | ⟨h25, h⟩
      · 
        obtain ⟨r26, h27, h⟩ := bind_cases h
        obtain rfl := Option.some.inj h
        exact runAt_S (Q := Q1 x15 x16 x17 x18 x19 x20 _) (n := 100000) (c := (.code B1)) (K := []) (s := (I1 x15 x16 x17 x18 x19 x20).sl) (e := .normal) (t := J1_0 x15 x16 x17 x18 x19 x20 r26) (l := [])
          (hs := [hA, .call ⟨[.ro], 9, [], true, [], (vB r21), [], 1⟩, .skip, .g (.env 28 (C.v (vB true))), hA, hA, .skip, .skip, .g (.env 33 (C.v (vB true))), hA, hA, .skip, .skip, .g (.env 38 (C.v (vB true))), hA, .call ⟨[.ro, .ro, .ro], 9, [], true, [], (vB r26), [], 1⟩])
          (ps := [CallOK Try.prog 212 [.ro (vI .i64 x17)] [] (vB r21), C.v (vB r21) = C.v (vB true), C.v (vB (decide (x18 = 0))) = C.v (vB true), C.v (vB (decide (x19 = 0))) = C.v (vB true), CallOK Try.prog 151 [.ro (vI .i64 x20), .ro (vI .i64 0), .ro (vI .i64 65535)] [] (vB r26), (r26 : Bool) = r26])
          (by kernel_rfl) ⟨F212.fn_c fuel x17 _ h22, vbB h23, vbB h24, vbB h25, F151.fn_c fuel x20 0 65535 _ h27, rfl, trivial⟩ (fun st hl => ⟨rfl, hl⟩)
      · 
        obtain rfl := Option.some.inj h
        exact runAt_S (Q := Q1 x15 x16 x17 x18 x19 x20 _) (n := 100000) (c := (.code B1)) (K := []) (s := (I1 x15 x16 x17 x18 x19 x20).sl) (e := .normal) (t := J1_0 x15 x16 x17 x18 x19 x20 false) (l := [])
          (hs := [hA, .call ⟨[.ro], 9, [], true, [], (vB r21), [], 1⟩, .skip, .g (.env 28 (C.v (vB true))), hA, hA, .skip, .skip, .g (.env 33 (C.v (vB true))), hA, hA, .skip, .skip, .g (.env 38 (C.v (vB false)))])
          (ps := [CallOK Try.prog 212 [.ro (vI .i64 x17)] [] (vB r21), C.v (vB r21) = C.v (vB true), C.v (vB (decide (x18 = 0))) = C.v (vB true), C.v (vB (decide (x19 = 0))) = C.v (vB false), (false : Bool) = false])
          (by kernel_rfl) ⟨F212.fn_c fuel x17 _ h22, vbB h23, vbB h24, vbB h25, rfl, trivial⟩ (fun st hl => ⟨rfl, hl⟩)
    · 
      obtain rfl := Option.some.inj h
      exact runAt_S (Q := Q1 x15 x16 x17 x18 x19 x20 _) (n := 100000) (c := (.code B1)) (K := []) (s := (I1 x15 x16 x17 x18 x19 x20).sl) (e := .normal) (t := J1_0 x15 x16 x17 x18 x19 x20 false) (l := [])
        (hs := [hA, .call ⟨[.ro], 9, [], true, [], (vB r21), [], 1⟩, .skip, .g (.env 28 (C.v (vB true))), hA, hA, .skip, .skip, .g (.env 33 (C.v (vB false)))])
        (ps := [CallOK Try.prog 212 [.ro (vI .i64 x17)] [] (vB r21), C.v (vB r21) = C.v (vB true), C.v (vB (decide (x18 = 0))) = C.v (vB false), (false : Bool) = false])
        (by kernel_rfl) ⟨F212.fn_c fuel x17 _ h22, vbB h23, vbB h24, rfl, trivial⟩ (fun st hl => ⟨rfl, hl⟩)
  · 
    obtain rfl := Option.some.inj h
    exact runAt_S (Q := Q1 x15 x16 x17 x18 x19 x20 _) (n := 100000) (c := (.code B1)) (K := []) (s := (I1 x15 x16 x17 x18 x19 x20).sl) (e := .normal) (t := J1_0 x15 x16 x17 x18 x19 x20 false) (l := [])
      (hs := [hA, .call ⟨[.ro], 9, [], true, [], (vB r21), [], 1⟩, .skip, .g (.env 28 (C.v (vB false)))])
      (ps := [CallOK Try.prog 212 [.ro (vI .i64 x17)] [] (vB r21), C.v (vB r21) = C.v (vB false), (false : Bool) = false])
      (by kernel_rfl) ⟨F212.fn_c fuel x17 _ h22, vbB h23, rfl, trivial⟩ (fun st hl => ⟨rfl, hl⟩)
def I2 (x30 : Int) (x31 : Int) (x32 : Int) (x33 : Int) (x34 : Int) (x35 : Int) (v36 : Bool) : TL := ⟨112, [C.dead], [(1, C.pr 0 0), (22, C.v (vI .i64 x30)), (43, C.v (vB v36))], [], [(0, [C.own (vI .i64 x30), C.own (vI .i64 x31), C.own (vI .i64 x32), C.own (vI .i64 x33), C.own (vI .i64 x34), C.own (vI .i64 x35)])]⟩
def J2_0 (x30 : Int) (x31 : Int) (x32 : Int) (x33 : Int) (x34 : Int) (x35 : Int) (v36 : Bool) (o : Bool) : TL := ⟨112, [C.dead], [(1, C.pr 0 0), (22, C.v (vI .i64 x30)), (43, C.v (vB o))], [], [(0, [C.own (vI .i64 x30), C.own (vI .i64 x31), C.own (vI .i64 x32), C.own (vI .i64 x33), C.own (vI .i64 x34), C.own (vI .i64 x35)])]⟩
def Q2 (x30 : Int) (x31 : Int) (x32 : Int) (x33 : Int) (x34 : Int) (x35 : Int) (v36 : Bool) (r : Bool) (e : Exit) (st : St) : Prop := (fun o => e = .normal ∧ Le st (J2_0 x30 x31 x32 x33 x34 x35 v36 o).sl.st) r
def p2 (fuel : Nat) (x30 : Int) (x31 : Int) (x32 : Int) (x33 : Int) (x34 : Int) (x35 : Int) (v36 : Bool) : Option Bool :=
  cond (v36)
  (some true)
  (some (decide (x30 = 4)))
theorem p2_c (fuel : Nat) (x30 : Int) (x31 : Int) (x32 : Int) (x33 : Int) (x34 : Int) (x35 : Int) (v36 : Bool) (r : Bool) (h : p2 fuel x30 x31 x32 x33 x34 x35 v36 = some r) : TW Try.prog B2 (I2 x30 x31 x32 x33 x34 x35 v36).sl.st (Q2 x30 x31 x32 x33 x34 x35 v36 r) := by
  unfold p2 at h
  rcases cond_cases h with ⟨h37, h⟩ | ⟨h37, h⟩
  · 
    obtain rfl := Option.some.inj h
    exact runAt_S (Q := Q2 x30 x31 x32 x33 x34 x35 v36 _) (n := 100000) (c := (.code B2)) (K := []) (s := (I2 x30 x31 x32 x33 x34 x35 v36).sl) (e := .normal) (t := J2_0 x30 x31 x32 x33 x34 x35 v36 true) (l := [(0, 0)])
      (hs := [.g (.env 43 (C.v (vB true)))])
      (ps := [C.v (vB v36) = C.v (vB true), 0 = 0, (x30 : Int) = x30, (true : Bool) = true, (x30 : Int) = x30, (x31 : Int) = x31, (x32 : Int) = x32, (x33 : Int) = x33, (x34 : Int) = x34, (x35 : Int) = x35])
      (by kernel_rfl) ⟨vbB h37, rfl, rfl, rfl, rfl, rfl, rfl, rfl, rfl, rfl, trivial⟩ (fun st hl => ⟨rfl, hl⟩)
  · 
    obtain rfl := Option.some.inj h
    exact runAt_S (Q := Q2 x30 x31 x32 x33 x34 x35 v36 _) (n := 100000) (c := (.code B2)) (K := []) (s := (I2 x30 x31 x32 x33 x34 x35 v36).sl) (e := .normal) (t := J2_0 x30 x31 x32 x33 x34 x35 v36 (decide (x30 = 4))) (l := [(0, 0)])
      (hs := [.g (.env 43 (C.v (vB false))), hA])
      (ps := [C.v (vB v36) = C.v (vB false), 0 = 0, (x30 : Int) = x30, (decide (x30 = 4) : Bool) = (decide (x30 = 4)), (x30 : Int) = x30, (x31 : Int) = x31, (x32 : Int) = x32, (x33 : Int) = x33, (x34 : Int) = x34, (x35 : Int) = x35])
      (by kernel_rfl) ⟨vbB h37, rfl, rfl, rfl, rfl, rfl, rfl, rfl, rfl, rfl, trivial⟩ (fun st hl => ⟨rfl, hl⟩)
def I3 (x41 : Int) (x42 : Int) (x43 : Int) (x44 : Int) (x45 : Int) (x46 : Int) : TL := ⟨112, [C.dead], [(1, C.pr 0 0)], [], [(0, [C.own (vI .i64 x41), C.own (vI .i64 x42), C.own (vI .i64 x43), C.own (vI .i64 x44), C.own (vI .i64 x45), C.own (vI .i64 x46)])]⟩
def J3_0 (x41 : Int) (x42 : Int) (x43 : Int) (x44 : Int) (x45 : Int) (x46 : Int) (o : Bool) : TL := ⟨112, [C.dead], [(2, C.v (vB o))], [], []⟩
def Q3 (x41 : Int) (x42 : Int) (x43 : Int) (x44 : Int) (x45 : Int) (x46 : Int) (r : Bool) (e : Exit) (st : St) : Prop := (fun o => e = .normal ∧ Le st (J3_0 x41 x42 x43 x44 x45 x46 o).sl.st) r
def p3 (fuel : Nat) (x41 : Int) (x42 : Int) (x43 : Int) (x44 : Int) (x45 : Int) (x46 : Int) : Option Bool :=
  (F212.fn fuel x43).bind fun r47 =>
  cond (r47)
  ((F212.fn fuel x44).bind fun r50 =>
    cond (r50)
    (some (decide (x45 = 0)))
    (some false))
  (some false)
theorem p3_c (fuel : Nat) (x41 : Int) (x42 : Int) (x43 : Int) (x44 : Int) (x45 : Int) (x46 : Int) (r : Bool) (h : p3 fuel x41 x42 x43 x44 x45 x46 = some r) : TW Try.prog B3 (I3 x41 x42 x43 x44 x45 x46).sl.st (Q3 x41 x42 x43 x44 x45 x46 r) := by
  unfold p3 at h
  obtain ⟨r47, h48, h⟩ := bind_cases h
  rcases cond_cases h with ⟨h49, h⟩ | ⟨h49, h⟩
  · 
    obtain ⟨r50, h51, h⟩ := bind_cases h
    rcases cond_cases h with ⟨h52, h⟩ | ⟨h52, h⟩
    · 
      obtain rfl := Option.some.inj h
      exact runAt_S (Q := Q3 x41 x42 x43 x44 x45 x46 _) (n := 100000) (c := (.code B3)) (K := []) (s := (I3 x41 x42 x43 x44 x45 x46).sl) (e := .normal) (t := J3_0 x41 x42 x43 x44 x45 x46 (decide (x45 = 0))) (l := [])
        (hs := [hA, .call ⟨[.ro], 9, [], true, [], (vB r47), [], 1⟩, .skip, .g (.env 49 (C.v (vB true))), hA, .call ⟨[.ro], 9, [], true, [], (vB r50), [], 1⟩, .skip, .skip, .g (.env 54 (C.v (vB true))), hA, hA])
        (ps := [CallOK Try.prog 212 [.ro (vI .i64 x43)] [] (vB r47), C.v (vB r47) = C.v (vB true), CallOK Try.prog 212 [.ro (vI .i64 x44)] [] (vB r50), C.v (vB r50) = C.v (vB true), (decide (x45 = 0) : Bool) = (decide (x45 = 0))])
        (by kernel_rfl) ⟨F212.fn_c fuel x43 _ h48, vbB h49, F212.fn_c fuel x44 _ h51, vbB h52, rfl, trivial⟩ (fun st hl => ⟨rfl, hl⟩)
    · 
      obtain rfl := Option.some.inj h
      exact runAt_S (Q := Q3 x41 x42 x43 x44 x45 x46 _) (n := 100000) (c := (.code B3)) (K := []) (s := (I3 x41 x42 x43 x44 x45 x46).sl) (e := .normal) (t := J3_0 x41 x42 x43 x44 x45 x46 false) (l := [])
        (hs := [hA, .call ⟨[.ro], 9, [], true, [], (vB r47), [], 1⟩, .skip, .g (.env 49 (C.v (vB true))), hA, .call ⟨[.ro], 9, [], true, [], (vB r50), [], 1⟩, .skip, .skip, .g (.env 54 (C.v (vB false)))])
        (ps := [CallOK Try.prog 212 [.ro (vI .i64 x43)] [] (vB r47), C.v (vB r47) = C.v (vB true), CallOK Try.prog 212 [.ro (vI .i64 x44)] [] (vB r50), C.v (vB r50) = C.v (vB false), (false : Bool) = false])
        (by kernel_rfl) ⟨F212.fn_c fuel x43 _ h48, vbB h49, F212.fn_c fuel x44 _ h51, vbB h52, rfl, trivial⟩ (fun st hl => ⟨rfl, hl⟩)
  · 
    obtain rfl := Option.some.inj h
    exact runAt_S (Q := Q3 x41 x42 x43 x44 x45 x46 _) (n := 100000) (c := (.code B3)) (K := []) (s := (I3 x41 x42 x43 x44 x45 x46).sl) (e := .normal) (t := J3_0 x41 x42 x43 x44 x45 x46 false) (l := [])
      (hs := [hA, .call ⟨[.ro], 9, [], true, [], (vB r47), [], 1⟩, .skip, .g (.env 49 (C.v (vB false)))])
      (ps := [CallOK Try.prog 212 [.ro (vI .i64 x43)] [] (vB r47), C.v (vB r47) = C.v (vB false), (false : Bool) = false])
      (by kernel_rfl) ⟨F212.fn_c fuel x43 _ h48, vbB h49, rfl, trivial⟩ (fun st hl => ⟨rfl, hl⟩)
def I4 (x56 : Int) (x57 : Int) (x58 : Int) (x59 : Int) (x60 : Int) (x61 : Int) : TL := ⟨112, [C.dead], [(1, C.pr 0 0)], [], [(0, [C.own (vI .i64 x56), C.own (vI .i64 x57), C.own (vI .i64 x58), C.own (vI .i64 x59), C.own (vI .i64 x60), C.own (vI .i64 x61)])]⟩
def J4_0 (x56 : Int) (x57 : Int) (x58 : Int) (x59 : Int) (x60 : Int) (x61 : Int) (o : Bool) : TL := ⟨112, [C.dead], [(2, C.v (vB o))], [], []⟩
def Q4 (x56 : Int) (x57 : Int) (x58 : Int) (x59 : Int) (x60 : Int) (x61 : Int) (r : Bool) (e : Exit) (st : St) : Prop := (fun o => e = .normal ∧ Le st (J4_0 x56 x57 x58 x59 x60 x61 o).sl.st) r
def p4 (fuel : Nat) (x56 : Int) (x57 : Int) (x58 : Int) (x59 : Int) (x60 : Int) (x61 : Int) : Option Bool :=
  (F212.fn fuel x58).bind fun r62 =>
  cond (r62)
  ((F212.fn fuel x59).bind fun r65 =>
    cond (r65)
    ((F212.fn fuel x60).bind fun r68 =>
      cond (r68)
      ((F151.fn fuel x57 4 9).bind fun r71 =>
        some r71)
      (some false))
    (some false))
  (some false)
theorem p4_c (fuel : Nat) (x56 : Int) (x57 : Int) (x58 : Int) (x59 : Int) (x60 : Int) (x61 : Int) (r : Bool) (h : p4 fuel x56 x57 x58 x59 x60 x61 = some r) : TW Try.prog B4 (I4 x56 x57 x58 x59 x60 x61).sl.st (Q4 x56 x57 x58 x59 x60 x61 r) := by
  unfold p4 at h
  obtain ⟨r62, h63, h⟩ := bind_cases h
  rcases cond_cases h with ⟨h64, h⟩ | ⟨h64, h⟩
  · 
    obtain ⟨r65, h66, h⟩ := bind_cases h
    rcases cond_cases h with ⟨h67, h⟩ | ⟨h67, h⟩
    · 
      obtain ⟨r68, h69, h⟩ := bind_cases h
      rcases cond_cases h with ⟨h70, h⟩ | ⟨h70, h⟩
      · 
        obtain ⟨r71, h72, h⟩ := bind_cases h
        obtain rfl := Option.some.inj h
        exact runAt_S (Q := Q4 x56 x57 x58 x59 x60 x61 _) (n := 100000) (c := (.code B4)) (K := []) (s := (I4 x56 x57 x58 x59 x60 x61).sl) (e := .normal) (t := J4_0 x56 x57 x58 x59 x60 x61 r71) (l := [])
          (hs := [hA, .call ⟨[.ro], 9, [], true, [], (vB r62), [], 1⟩, .skip, .g (.env 64 (C.v (vB true))), hA, .call ⟨[.ro], 9, [], true, [], (vB r65), [], 1⟩, .skip, .skip, .g (.env 69 (C.v (vB true))), hA, .call ⟨[.ro], 9, [], true, [], (vB r68), [], 1⟩, .skip, .skip, .g (.env 74 (C.v (vB true))), hA, .call ⟨[.ro, .ro, .ro], 9, [], true, [], (vB r71), [], 1⟩])
          (ps := [CallOK Try.prog 212 [.ro (vI .i64 x58)] [] (vB r62), C.v (vB r62) = C.v (vB true), CallOK Try.prog 212 [.ro (vI .i64 x59)] [] (vB r65), C.v (vB r65) = C.v (vB true), CallOK Try.prog 212 [.ro (vI .i64 x60)] [] (vB r68), C.v (vB r68) = C.v (vB true), CallOK Try.prog 151 [.ro (vI .i64 x57), .ro (vI .i64 4), .ro (vI .i64 9)] [] (vB r71), (r71 : Bool) = r71])
          (by kernel_rfl) ⟨F212.fn_c fuel x58 _ h63, vbB h64, F212.fn_c fuel x59 _ h66, vbB h67, F212.fn_c fuel x60 _ h69, vbB h70, F151.fn_c fuel x57 4 9 _ h72, rfl, trivial⟩ (fun st hl => ⟨rfl, hl⟩)
      · 
        obtain rfl := Option.some.inj h
        exact runAt_S (Q := Q4 x56 x57 x58 x59 x60 x61 _) (n := 100000) (c := (.code B4)) (K := []) (s := (I4 x56 x57 x58 x59 x60 x61).sl) (e := .normal) (t := J4_0 x56 x57 x58 x59 x60 x61 false) (l := [])
          (hs := [hA, .call ⟨[.ro], 9, [], true, [], (vB r62), [], 1⟩, .skip, .g (.env 64 (C.v (vB true))), hA, .call ⟨[.ro], 9, [], true, [], (vB r65), [], 1⟩, .skip, .skip, .g (.env 69 (C.v (vB true))), hA, .call ⟨[.ro], 9, [], true, [], (vB r68), [], 1⟩, .skip, .skip, .g (.env 74 (C.v (vB false)))])
          (ps := [CallOK Try.prog 212 [.ro (vI .i64 x58)] [] (vB r62), C.v (vB r62) = C.v (vB true), CallOK Try.prog 212 [.ro (vI .i64 x59)] [] (vB r65), C.v (vB r65) = C.v (vB true), CallOK Try.prog 212 [.ro (vI .i64 x60)] [] (vB r68), C.v (vB r68) = C.v (vB false), (false : Bool) = false])
          (by kernel_rfl) ⟨F212.fn_c fuel x58 _ h63, vbB h64, F212.fn_c fuel x59 _ h66, vbB h67, F212.fn_c fuel x60 _ h69, vbB h70, rfl, trivial⟩ (fun st hl => ⟨rfl, hl⟩)
    · 
      obtain rfl := Option.some.inj h
      exact runAt_S (Q := Q4 x56 x57 x58 x59 x60 x61 _) (n := 100000) (c := (.code B4)) (K := []) (s := (I4 x56 x57 x58 x59 x60 x61).sl) (e := .normal) (t := J4_0 x56 x57 x58 x59 x60 x61 false) (l := [])
        (hs := [hA, .call ⟨[.ro], 9, [], true, [], (vB r62), [], 1⟩, .skip, .g (.env 64 (C.v (vB true))), hA, .call ⟨[.ro], 9, [], true, [], (vB r65), [], 1⟩, .skip, .skip, .g (.env 69 (C.v (vB false)))])
        (ps := [CallOK Try.prog 212 [.ro (vI .i64 x58)] [] (vB r62), C.v (vB r62) = C.v (vB true), CallOK Try.prog 212 [.ro (vI .i64 x59)] [] (vB r65), C.v (vB r65) = C.v (vB false), (false : Bool) = false])
        (by kernel_rfl) ⟨F212.fn_c fuel x58 _ h63, vbB h64, F212.fn_c fuel x59 _ h66, vbB h67, rfl, trivial⟩ (fun st hl => ⟨rfl, hl⟩)
  · 
    obtain rfl := Option.some.inj h
    exact runAt_S (Q := Q4 x56 x57 x58 x59 x60 x61 _) (n := 100000) (c := (.code B4)) (K := []) (s := (I4 x56 x57 x58 x59 x60 x61).sl) (e := .normal) (t := J4_0 x56 x57 x58 x59 x60 x61 false) (l := [])
      (hs := [hA, .call ⟨[.ro], 9, [], true, [], (vB r62), [], 1⟩, .skip, .g (.env 64 (C.v (vB false)))])
      (ps := [CallOK Try.prog 212 [.ro (vI .i64 x58)] [] (vB r62), C.v (vB r62) = C.v (vB false), (false : Bool) = false])
      (by kernel_rfl) ⟨F212.fn_c fuel x58 _ h63, vbB h64, rfl, trivial⟩ (fun st hl => ⟨rfl, hl⟩)
def I5 (x76 : Int) (x77 : Int) (x78 : Int) (x79 : Int) (x80 : Int) (x81 : Int) : TL := ⟨112, [C.dead], [(1, C.pr 0 0)], [], [(0, [C.own (vI .i64 x76), C.own (vI .i64 x77), C.own (vI .i64 x78), C.own (vI .i64 x79), C.own (vI .i64 x80), C.own (vI .i64 x81)])]⟩
def J5_0 (x76 : Int) (x77 : Int) (x78 : Int) (x79 : Int) (x80 : Int) (x81 : Int) (o : Bool) : TL := ⟨112, [C.dead], [(2, C.v (vB o))], [], []⟩
def Q5 (x76 : Int) (x77 : Int) (x78 : Int) (x79 : Int) (x80 : Int) (x81 : Int) (r : Bool) (e : Exit) (st : St) : Prop := (fun o => e = .normal ∧ Le st (J5_0 x76 x77 x78 x79 x80 x81 o).sl.st) r
def p5 (fuel : Nat) (x76 : Int) (x77 : Int) (x78 : Int) (x79 : Int) (x80 : Int) (x81 : Int) : Option Bool :=
  cond (decide (x78 = 0))
  ((F212.fn fuel x79).bind fun r83 =>
    cond (r83)
    ((F212.fn fuel x80).bind fun r86 =>
      some r86)
    (some false))
  (some false)
theorem p5_c (fuel : Nat) (x76 : Int) (x77 : Int) (x78 : Int) (x79 : Int) (x80 : Int) (x81 : Int) (r : Bool) (h : p5 fuel x76 x77 x78 x79 x80 x81 = some r) : TW Try.prog B5 (I5 x76 x77 x78 x79 x80 x81).sl.st (Q5 x76 x77 x78 x79 x80 x81 r) := by
  unfold p5 at h
  rcases cond_cases h with ⟨h82, h⟩ | ⟨h82, h⟩
  · 
    obtain ⟨r83, h84, h⟩ := bind_cases h
    rcases cond_cases h with ⟨h85, h⟩ | ⟨h85, h⟩
    · 
      obtain ⟨r86, h87, h⟩ := bind_cases h
      obtain rfl := Option.some.inj h
      exact runAt_S (Q := Q5 x76 x77 x78 x79 x80 x81 _) (n := 100000) (c := (.code B5)) (K := []) (s := (I5 x76 x77 x78 x79 x80 x81).sl) (e := .normal) (t := J5_0 x76 x77 x78 x79 x80 x81 r86) (l := [])
        (hs := [hA, hA, .skip, .g (.env 84 (C.v (vB true))), hA, .call ⟨[.ro], 9, [], true, [], (vB r83), [], 1⟩, .skip, .skip, .g (.env 89 (C.v (vB true))), hA, .call ⟨[.ro], 9, [], true, [], (vB r86), [], 1⟩])
        (ps := [C.v (vB (decide (x78 = 0))) = C.v (vB true), CallOK Try.prog 212 [.ro (vI .i64 x79)] [] (vB r83), C.v (vB r83) = C.v (vB true), CallOK Try.prog 212 [.ro (vI .i64 x80)] [] (vB r86), (r86 : Bool) = r86])
        (by kernel_rfl) ⟨vbB h82, F212.fn_c fuel x79 _ h84, vbB h85, F212.fn_c fuel x80 _ h87, rfl, trivial⟩ (fun st hl => ⟨rfl, hl⟩)
    · 
      obtain rfl := Option.some.inj h
      exact runAt_S (Q := Q5 x76 x77 x78 x79 x80 x81 _) (n := 100000) (c := (.code B5)) (K := []) (s := (I5 x76 x77 x78 x79 x80 x81).sl) (e := .normal) (t := J5_0 x76 x77 x78 x79 x80 x81 false) (l := [])
        (hs := [hA, hA, .skip, .g (.env 84 (C.v (vB true))), hA, .call ⟨[.ro], 9, [], true, [], (vB r83), [], 1⟩, .skip, .skip, .g (.env 89 (C.v (vB false)))])
        (ps := [C.v (vB (decide (x78 = 0))) = C.v (vB true), CallOK Try.prog 212 [.ro (vI .i64 x79)] [] (vB r83), C.v (vB r83) = C.v (vB false), (false : Bool) = false])
        (by kernel_rfl) ⟨vbB h82, F212.fn_c fuel x79 _ h84, vbB h85, rfl, trivial⟩ (fun st hl => ⟨rfl, hl⟩)
  · 
    obtain rfl := Option.some.inj h
    exact runAt_S (Q := Q5 x76 x77 x78 x79 x80 x81 _) (n := 100000) (c := (.code B5)) (K := []) (s := (I5 x76 x77 x78 x79 x80 x81).sl) (e := .normal) (t := J5_0 x76 x77 x78 x79 x80 x81 false) (l := [])
      (hs := [hA, hA, .skip, .g (.env 84 (C.v (vB false)))])
      (ps := [C.v (vB (decide (x78 = 0))) = C.v (vB false), (false : Bool) = false])
      (by kernel_rfl) ⟨vbB h82, rfl, trivial⟩ (fun st hl => ⟨rfl, hl⟩)
def fn (fuel : Nat) (x0 : T131) : Option Bool :=
  (p0 fuel x0.f0 x0.f1 x0.f2 x0.f3 x0.f4 x0.f5).bind fun r11 =>
  cond (r11)
  (some false)
  (cond (decide (x0.f0 = 1))
    ((p1 fuel x0.f0 x0.f1 x0.f2 x0.f3 x0.f4 x0.f5).bind fun r28 =>
      some r28)
    ((p2 fuel x0.f0 x0.f1 x0.f2 x0.f3 x0.f4 x0.f5 (decide (x0.f0 = 2))).bind fun r38 =>
      cond (r38)
      ((p3 fuel x0.f0 x0.f1 x0.f2 x0.f3 x0.f4 x0.f5).bind fun r53 =>
        some r53)
      (cond (decide (x0.f0 = 3))
        ((p4 fuel x0.f0 x0.f1 x0.f2 x0.f3 x0.f4 x0.f5).bind fun r73 =>
          some r73)
        (cond (decide (x0.f0 = 5))
          ((p5 fuel x0.f0 x0.f1 x0.f2 x0.f3 x0.f4 x0.f5).bind fun r88 =>
            some r88)
          (cond (decide (x0.f0 = 6))
            (cond (decide (x0.f2 = 0))
              ((F212.fn fuel x0.f3).bind fun r92 =>
                cond (r92)
                (some (decide (x0.f4 = 0)))
                (some false))
              (some false))
            (some false))))))
theorem ent : enterable Try.prog 169 = true := by kernel_rfl
theorem fn_c (fuel : Nat) (x0 : T131) (r : Bool) (h : fn fuel x0 = some r) : CallOK Try.prog 169 [.ro (.ag (eT131.f x0))] [] (vB r) := by
  refine contract_run Try.func169 (b := bod Try.f169) rfl ent ?_
  unfold fn at h
  obtain ⟨r11, h12, h⟩ := bind_cases h
  refine runTo_S (n := 5) (c := (.code (bod Try.f169))) (K := []) (b := (.code B0)) (K1 := K0) (t := I0 x0.f0 x0.f1 x0.f2 x0.f3 x0.f4 x0.f5) (l := [(0, 0)])
    (hs := [.h (.new 0)])
    (ps := [0 = 0, (x0.f0 : Int) = x0.f0, (x0.f1 : Int) = x0.f1, (x0.f2 : Int) = x0.f2, (x0.f3 : Int) = x0.f3, (x0.f4 : Int) = x0.f4, (x0.f5 : Int) = x0.f5])
    (by kernel_rfl) ⟨rfl, rfl, rfl, rfl, rfl, rfl, rfl, trivial⟩ (cut_code ?_)
  refine TW.mono_le (p0_c fuel x0.f0 x0.f1 x0.f2 x0.f3 x0.f4 x0.f5 _ h12) ?_
  rintro e st hq
  obtain ⟨rfl, hl⟩ := hq
  refine ⟨_, hl, ?_⟩
  rcases cond_cases h with ⟨h13, h⟩ | ⟨h13, h⟩
  · 
    obtain rfl := Option.some.inj h
    exact runRet_S (r := ⟨Try.f169.results.toList, _, _, _, [], 9⟩) (n := 100000) (c := (.out .normal)) (K := K0) (s := (J0_0 x0.f0 x0.f1 x0.f2 x0.f3 x0.f4 x0.f5 r11).sl)
      (hs := [.g (.env 20 (C.v (vB true)))])
      (ps := [C.v (vB r11) = C.v (vB true), (false : Bool) = false])
      (by kernel_rfl) ⟨vbB h13, rfl, trivial⟩ rfl (fun _ _ h => h)
  · 
    rcases cond_cases h with ⟨h14, h⟩ | ⟨h14, h⟩
    · 
      obtain ⟨r28, h29, h⟩ := bind_cases h
      refine runTo_S (n := 14) (c := (.out .normal)) (K := K0) (s := (J0_0 x0.f0 x0.f1 x0.f2 x0.f3 x0.f4 x0.f5 r11).sl) (b := (.code B1)) (K1 := K1) (t := I1 x0.f0 x0.f1 x0.f2 x0.f3 x0.f4 x0.f5) (l := [(0, 0)])
        (hs := [.g (.env 20 (C.v (vB false))), hA, hA, .skip, .g (.env 23 (C.v (vB true)))])
        (ps := [C.v (vB r11) = C.v (vB false), C.v (vB (decide (x0.f0 = 1))) = C.v (vB true), 0 = 0, (x0.f0 : Int) = x0.f0, (x0.f1 : Int) = x0.f1, (x0.f2 : Int) = x0.f2, (x0.f3 : Int) = x0.f3, (x0.f4 : Int) = x0.f4, (x0.f5 : Int) = x0.f5])
        (by kernel_rfl) ⟨vbB h13, vbB h14, rfl, rfl, rfl, rfl, rfl, rfl, rfl, trivial⟩ (cut_code ?_)
      refine TW.mono_le (p1_c fuel x0.f0 x0.f1 x0.f2 x0.f3 x0.f4 x0.f5 _ h29) ?_
      rintro e st hq
      obtain ⟨rfl, hl⟩ := hq
      refine ⟨_, hl, ?_⟩
      obtain rfl := Option.some.inj h
      exact runRet_S (r := ⟨Try.f169.results.toList, _, _, _, [], 9⟩) (n := 100000) (c := (.out .normal)) (K := K1) (s := (J1_0 x0.f0 x0.f1 x0.f2 x0.f3 x0.f4 x0.f5 r28).sl)
        (hs := [])
        (ps := [(r28 : Bool) = r28])
        (by kernel_rfl) ⟨rfl, trivial⟩ rfl (fun _ _ h => h)
    · 
      obtain ⟨r38, h39, h⟩ := bind_cases h
      refine runTo_S (n := 17) (c := (.out .normal)) (K := K0) (s := (J0_0 x0.f0 x0.f1 x0.f2 x0.f3 x0.f4 x0.f5 r11).sl) (b := (.code B2)) (K1 := K2) (t := I2 x0.f0 x0.f1 x0.f2 x0.f3 x0.f4 x0.f5 (decide (x0.f0 = 2))) (l := [(0, 0)])
        (hs := [.g (.env 20 (C.v (vB false))), hA, hA, .skip, .g (.env 23 (C.v (vB false))), hA])
        (ps := [C.v (vB r11) = C.v (vB false), C.v (vB (decide (x0.f0 = 1))) = C.v (vB false), 0 = 0, (x0.f0 : Int) = x0.f0, (decide (x0.f0 = 2) : Bool) = (decide (x0.f0 = 2)), (x0.f0 : Int) = x0.f0, (x0.f1 : Int) = x0.f1, (x0.f2 : Int) = x0.f2, (x0.f3 : Int) = x0.f3, (x0.f4 : Int) = x0.f4, (x0.f5 : Int) = x0.f5])
        (by kernel_rfl) ⟨vbB h13, vbB h14, rfl, rfl, rfl, rfl, rfl, rfl, rfl, rfl, rfl, trivial⟩ (cut_code ?_)
      refine TW.mono_le (p2_c fuel x0.f0 x0.f1 x0.f2 x0.f3 x0.f4 x0.f5 (decide (x0.f0 = 2)) _ h39) ?_
      rintro e st hq
      obtain ⟨rfl, hl⟩ := hq
      refine ⟨_, hl, ?_⟩
      rcases cond_cases h with ⟨h40, h⟩ | ⟨h40, h⟩
      · 
        obtain ⟨r53, h54, h⟩ := bind_cases h
        refine runTo_S (n := 3) (c := (.out .normal)) (K := K2) (s := (J2_0 x0.f0 x0.f1 x0.f2 x0.f3 x0.f4 x0.f5 (decide (x0.f0 = 2)) r38).sl) (b := (.code B3)) (K1 := K3) (t := I3 x0.f0 x0.f1 x0.f2 x0.f3 x0.f4 x0.f5) (l := [(0, 0)])
          (hs := [.g (.env 43 (C.v (vB true)))])
          (ps := [C.v (vB r38) = C.v (vB true), 0 = 0, (x0.f0 : Int) = x0.f0, (x0.f1 : Int) = x0.f1, (x0.f2 : Int) = x0.f2, (x0.f3 : Int) = x0.f3, (x0.f4 : Int) = x0.f4, (x0.f5 : Int) = x0.f5])
          (by kernel_rfl) ⟨vbB h40, rfl, rfl, rfl, rfl, rfl, rfl, rfl, trivial⟩ (cut_code ?_)
        refine TW.mono_le (p3_c fuel x0.f0 x0.f1 x0.f2 x0.f3 x0.f4 x0.f5 _ h54) ?_
        rintro e st hq
        obtain ⟨rfl, hl⟩ := hq
        refine ⟨_, hl, ?_⟩
        obtain rfl := Option.some.inj h
        exact runRet_S (r := ⟨Try.f169.results.toList, _, _, _, [], 9⟩) (n := 100000) (c := (.out .normal)) (K := K3) (s := (J3_0 x0.f0 x0.f1 x0.f2 x0.f3 x0.f4 x0.f5 r53).sl)
          (hs := [])
          (ps := [(r53 : Bool) = r53])
          (by kernel_rfl) ⟨rfl, trivial⟩ rfl (fun _ _ h => h)
      · 
        rcases cond_cases h with ⟨h55, h⟩ | ⟨h55, h⟩
        · 
          obtain ⟨r73, h74, h⟩ := bind_cases h
          refine runTo_S (n := 7) (c := (.out .normal)) (K := K2) (s := (J2_0 x0.f0 x0.f1 x0.f2 x0.f3 x0.f4 x0.f5 (decide (x0.f0 = 2)) r38).sl) (b := (.code B4)) (K1 := K4) (t := I4 x0.f0 x0.f1 x0.f2 x0.f3 x0.f4 x0.f5) (l := [(0, 0)])
            (hs := [.g (.env 43 (C.v (vB false))), hA, .skip, .g (.env 59 (C.v (vB true)))])
            (ps := [C.v (vB r38) = C.v (vB false), C.v (vB (decide (x0.f0 = 3))) = C.v (vB true), 0 = 0, (x0.f0 : Int) = x0.f0, (x0.f1 : Int) = x0.f1, (x0.f2 : Int) = x0.f2, (x0.f3 : Int) = x0.f3, (x0.f4 : Int) = x0.f4, (x0.f5 : Int) = x0.f5])
            (by kernel_rfl) ⟨vbB h40, vbB h55, rfl, rfl, rfl, rfl, rfl, rfl, rfl, trivial⟩ (cut_code ?_)
          refine TW.mono_le (p4_c fuel x0.f0 x0.f1 x0.f2 x0.f3 x0.f4 x0.f5 _ h74) ?_
          rintro e st hq
          obtain ⟨rfl, hl⟩ := hq
          refine ⟨_, hl, ?_⟩
          obtain rfl := Option.some.inj h
          exact runRet_S (r := ⟨Try.f169.results.toList, _, _, _, [], 9⟩) (n := 100000) (c := (.out .normal)) (K := K4) (s := (J4_0 x0.f0 x0.f1 x0.f2 x0.f3 x0.f4 x0.f5 r73).sl)
            (hs := [])
            (ps := [(r73 : Bool) = r73])
            (by kernel_rfl) ⟨rfl, trivial⟩ rfl (fun _ _ h => h)
        · 
          rcases cond_cases h with ⟨h75, h⟩ | ⟨h75, h⟩
          · 
            obtain ⟨r88, h89, h⟩ := bind_cases h
            refine runTo_S (n := 11) (c := (.out .normal)) (K := K2) (s := (J2_0 x0.f0 x0.f1 x0.f2 x0.f3 x0.f4 x0.f5 (decide (x0.f0 = 2)) r38).sl) (b := (.code B5)) (K1 := K5) (t := I5 x0.f0 x0.f1 x0.f2 x0.f3 x0.f4 x0.f5) (l := [(0, 0)])
              (hs := [.g (.env 43 (C.v (vB false))), hA, .skip, .g (.env 59 (C.v (vB false))), hA, .skip, .g (.env 79 (C.v (vB true)))])
              (ps := [C.v (vB r38) = C.v (vB false), C.v (vB (decide (x0.f0 = 3))) = C.v (vB false), C.v (vB (decide (x0.f0 = 5))) = C.v (vB true), 0 = 0, (x0.f0 : Int) = x0.f0, (x0.f1 : Int) = x0.f1, (x0.f2 : Int) = x0.f2, (x0.f3 : Int) = x0.f3, (x0.f4 : Int) = x0.f4, (x0.f5 : Int) = x0.f5])
              (by kernel_rfl) ⟨vbB h40, vbB h55, vbB h75, rfl, rfl, rfl, rfl, rfl, rfl, rfl, trivial⟩ (cut_code ?_)
            refine TW.mono_le (p5_c fuel x0.f0 x0.f1 x0.f2 x0.f3 x0.f4 x0.f5 _ h89) ?_
            rintro e st hq
            obtain ⟨rfl, hl⟩ := hq
            refine ⟨_, hl, ?_⟩
            obtain rfl := Option.some.inj h
            exact runRet_S (r := ⟨Try.f169.results.toList, _, _, _, [], 9⟩) (n := 100000) (c := (.out .normal)) (K := K5) (s := (J5_0 x0.f0 x0.f1 x0.f2 x0.f3 x0.f4 x0.f5 r88).sl)
              (hs := [])
              (ps := [(r88 : Bool) = r88])
              (by kernel_rfl) ⟨rfl, trivial⟩ rfl (fun _ _ h => h)
          · 
            rcases cond_cases h with ⟨h90, h⟩ | ⟨h90, h⟩
            · 
              rcases cond_cases h with ⟨h91, h⟩ | ⟨h91, h⟩
              · 
                obtain ⟨r92, h93, h⟩ := bind_cases h
                rcases cond_cases h with ⟨h94, h⟩ | ⟨h94, h⟩
                · 
                  obtain rfl := Option.some.inj h
                  exact runRet_S (r := ⟨Try.f169.results.toList, _, _, _, [], 9⟩) (n := 100000) (c := (.out .normal)) (K := K2) (s := (J2_0 x0.f0 x0.f1 x0.f2 x0.f3 x0.f4 x0.f5 (decide (x0.f0 = 2)) r38).sl)
                    (hs := [.g (.env 43 (C.v (vB false))), hA, .skip, .g (.env 59 (C.v (vB false))), hA, .skip, .g (.env 79 (C.v (vB false))), hA, hA, .skip, .g (.env 97 (C.v (vB true))), hA, hA, .skip, .skip, .g (.env 102 (C.v (vB true))), hA, .call ⟨[.ro], 9, [], true, [], (vB r92), [], 1⟩, .skip, .skip, .g (.env 107 (C.v (vB true))), hA, hA])
                    (ps := [C.v (vB r38) = C.v (vB false), C.v (vB (decide (x0.f0 = 3))) = C.v (vB false), C.v (vB (decide (x0.f0 = 5))) = C.v (vB false), C.v (vB (decide (x0.f0 = 6))) = C.v (vB true), C.v (vB (decide (x0.f2 = 0))) = C.v (vB true), CallOK Try.prog 212 [.ro (vI .i64 x0.f3)] [] (vB r92), C.v (vB r92) = C.v (vB true), (decide (x0.f4 = 0) : Bool) = (decide (x0.f4 = 0))])
                    (by kernel_rfl) ⟨vbB h40, vbB h55, vbB h75, vbB h90, vbB h91, F212.fn_c fuel x0.f3 _ h93, vbB h94, rfl, trivial⟩ rfl (fun _ _ h => h)
                · 
                  obtain rfl := Option.some.inj h
                  exact runRet_S (r := ⟨Try.f169.results.toList, _, _, _, [], 9⟩) (n := 100000) (c := (.out .normal)) (K := K2) (s := (J2_0 x0.f0 x0.f1 x0.f2 x0.f3 x0.f4 x0.f5 (decide (x0.f0 = 2)) r38).sl)
                    (hs := [.g (.env 43 (C.v (vB false))), hA, .skip, .g (.env 59 (C.v (vB false))), hA, .skip, .g (.env 79 (C.v (vB false))), hA, hA, .skip, .g (.env 97 (C.v (vB true))), hA, hA, .skip, .skip, .g (.env 102 (C.v (vB true))), hA, .call ⟨[.ro], 9, [], true, [], (vB r92), [], 1⟩, .skip, .skip, .g (.env 107 (C.v (vB false)))])
                    (ps := [C.v (vB r38) = C.v (vB false), C.v (vB (decide (x0.f0 = 3))) = C.v (vB false), C.v (vB (decide (x0.f0 = 5))) = C.v (vB false), C.v (vB (decide (x0.f0 = 6))) = C.v (vB true), C.v (vB (decide (x0.f2 = 0))) = C.v (vB true), CallOK Try.prog 212 [.ro (vI .i64 x0.f3)] [] (vB r92), C.v (vB r92) = C.v (vB false), (false : Bool) = false])
                    (by kernel_rfl) ⟨vbB h40, vbB h55, vbB h75, vbB h90, vbB h91, F212.fn_c fuel x0.f3 _ h93, vbB h94, rfl, trivial⟩ rfl (fun _ _ h => h)
              · 
                obtain rfl := Option.some.inj h
                exact runRet_S (r := ⟨Try.f169.results.toList, _, _, _, [], 9⟩) (n := 100000) (c := (.out .normal)) (K := K2) (s := (J2_0 x0.f0 x0.f1 x0.f2 x0.f3 x0.f4 x0.f5 (decide (x0.f0 = 2)) r38).sl)
                  (hs := [.g (.env 43 (C.v (vB false))), hA, .skip, .g (.env 59 (C.v (vB false))), hA, .skip, .g (.env 79 (C.v (vB false))), hA, hA, .skip, .g (.env 97 (C.v (vB true))), hA, hA, .skip, .skip, .g (.env 102 (C.v (vB false)))])
                  (ps := [C.v (vB r38) = C.v (vB false), C.v (vB (decide (x0.f0 = 3))) = C.v (vB false), C.v (vB (decide (x0.f0 = 5))) = C.v (vB false), C.v (vB (decide (x0.f0 = 6))) = C.v (vB true), C.v (vB (decide (x0.f2 = 0))) = C.v (vB false), (false : Bool) = false])
                  (by kernel_rfl) ⟨vbB h40, vbB h55, vbB h75, vbB h90, vbB h91, rfl, trivial⟩ rfl (fun _ _ h => h)
            · 
              obtain rfl := Option.some.inj h
              exact runRet_S (r := ⟨Try.f169.results.toList, _, _, _, [], 9⟩) (n := 100000) (c := (.out .normal)) (K := K2) (s := (J2_0 x0.f0 x0.f1 x0.f2 x0.f3 x0.f4 x0.f5 (decide (x0.f0 = 2)) r38).sl)
                (hs := [.g (.env 43 (C.v (vB false))), hA, .skip, .g (.env 59 (C.v (vB false))), hA, .skip, .g (.env 79 (C.v (vB false))), hA, hA, .skip, .g (.env 97 (C.v (vB false)))])
                (ps := [C.v (vB r38) = C.v (vB false), C.v (vB (decide (x0.f0 = 3))) = C.v (vB false), C.v (vB (decide (x0.f0 = 5))) = C.v (vB false), C.v (vB (decide (x0.f0 = 6))) = C.v (vB false), (false : Bool) = false])
                (by kernel_rfl) ⟨vbB h40, vbB h55, vbB h75, vbB h90, rfl, trivial⟩ rfl (fun _ _ h => h)
end F169
namespace F150
/-! spec.l6Block -/
noncomputable def K0 := (subC [1, 0, 1, 0] (bod Try.f150) []).2
noncomputable def L0 := (subC [1, 0, 1, 0, 0] (bod Try.f150) []).1
noncomputable def K1 := (subC [1, 1, 0, 1, 0] (bod Try.f150) []).2
noncomputable def L1 := (subC [1, 1, 0, 1, 0, 0] (bod Try.f150) []).1
noncomputable def K2 := (subC [1, 1, 1, 1, 0, 1, 0, 1, 0, 0] (bod Try.f150) []).2
noncomputable def B2 := (subC [1, 1, 1, 1, 0, 1, 0, 1, 0, 0] (bod Try.f150) []).1
noncomputable def K3 := (subC [1, 1, 1, 1, 0, 1, 0, 1, 1, 1, 0, 0] (bod Try.f150) []).2
noncomputable def B3 := (subC [1, 1, 1, 1, 0, 1, 0, 1, 1, 1, 0, 0] (bod Try.f150) []).1
noncomputable def K4 := (subC [1, 1, 1, 1, 0, 1, 0, 1, 1, 1, 1, 1, 0, 0] (bod Try.f150) []).2
noncomputable def B4 := (subC [1, 1, 1, 1, 0, 1, 0, 1, 1, 1, 1, 1, 0, 0] (bod Try.f150) []).1
def I0 (many1 : Int) (b2 : List T131) (b3 : Int) (b4 : Int) (b5 : List Int) (v6 : List T131) (v7 : Int) (v8 : Int) : TL := ⟨104, [C.dead, C.dead], [(1, C.v (vI .i64 many1)), (2, C.pr 0 0), (11, C.v (vS eT131 v6)), (12, C.v (vI .i64 v7)), (13, C.v (vI .i64 v8))], [], [(0, [C.v (vS eT131 b2), C.own (vI .i64 b3), C.own (vI .i64 b4), C.v (vS eJ b5)])]⟩
def J0_0 (many1 : Int) (b2 : List T131) (b3 : Int) (b4 : Int) (b5 : List Int) (v6 : List T131) (v7 : Int) (o : Unit) : TL := ⟨104, [C.dead, C.dead], [(4, C.v (vB false))], [], []⟩
def J0_1 (many1 : Int) (b2 : List T131) (b3 : Int) (b4 : Int) (b5 : List Int) (v6 : List T131) (v7 : Int) (o : Unit) : TL := ⟨104, [C.dead, C.dead], [(1, C.v (vI .i64 many1)), (2, C.pr 0 0)], [], [(0, [C.v (vS eT131 b2), C.own (vI .i64 b3), C.own (vI .i64 b4), C.v (vS eJ b5)])]⟩
def Q0 (many1 : Int) (b2 : List T131) (b3 : Int) (b4 : Int) (b5 : List Int) (v6 : List T131) (v7 : Int) (r : Unit ⊕ Unit) (e : Exit) (st : St) : Prop := (Sum.elim (fun o => e = .ret ∧ Le st (J0_0 many1 b2 b3 b4 b5 v6 v7 o).sl.st) (fun o => e = (.exit 0) ∧ Le st (J0_1 many1 b2 b3 b4 b5 v6 v7 o).sl.st)) r
def p0 (fuel : Nat) (many1 : Int) (b2 : List T131) (b3 : Int) (b4 : Int) (b5 : List Int) (v6 : List T131) (v7 : Int) : Nat → Int → Option (Unit ⊕ Unit)
  | 0, _ => none
  | n + 1, v8 =>
    cond (decide (v8 < v7))
    ((idx v8 v6.length).bind fun j10 =>
      (F169.fn fuel (v6.getD j10 (default : T131))).bind fun r12 =>
      cond (!r12)
      (some (.inl ()))
      (p0 fuel many1 b2 b3 b4 b5 v6 v7 n (w64 (v8 + 1))))
    (some (.inr ()))
theorem p0_c (fuel : Nat) (many1 : Int) (b2 : List T131) (b3 : Int) (b4 : Int) (b5 : List Int) (v6 : List T131) (v7 : Int) (n : Nat) (v8 : Int) (r : Unit ⊕ Unit) (h : p0 fuel many1 b2 b3 b4 b5 v6 v7 n v8 = some r) : TW Try.prog (.loop L0) (I0 many1 b2 b3 b4 b5 v6 v7 v8).sl.st (Q0 many1 b2 b3 b4 b5 v6 v7 r) := by
  refine loop_run (σ := Int) (fun x => I0 many1 b2 b3 b4 b5 v6 v7 x) (fun n x => p0 fuel many1 b2 b3 b4 b5 v6 v7 n x) (Q0 many1 b2 b3 b4 b5 v6 v7) ?_ (fun _ => rfl) (x := v8) h
  clear h
  rintro n v8 r h
  replace h : p0 fuel many1 b2 b3 b4 b5 v6 v7 (n + 1) v8 = some r := h
  rw [p0] at h
  rcases cond_cases h with ⟨h9, h⟩ | ⟨h9, h⟩
  · 
    obtain ⟨j10, h11, h⟩ := bind_cases h
    obtain ⟨r12, h13, h⟩ := bind_cases h
    rcases cond_cases h with ⟨h14, h⟩ | ⟨h14, h⟩
    · 
      obtain rfl := Option.some.inj h
      exact runAt_S (Q := Round _ (n + 1) _) (n := 100000) (c := (.code L0)) (K := []) (s := (I0 many1 b2 b3 b4 b5 v6 v7 v8).sl) (e := .ret) (t := J0_0 many1 b2 b3 b4 b5 v6 v7 ()) (l := [])
        (hs := [hA, .g (.env 14 (C.v (vB true))), .h (.idv j10 (eT131.f (v6.getD j10 (default : T131)) ++ (cs eT131 (v6.drop (j10 + 1))))), hA, .h (.new 1), hA, hA, .call ⟨[.ro], 9, [], true, [], (vB r12), [], 2⟩, hA, .g (.env 19 (C.v (vB true)))])
        (ps := [C.v (vB (decide (v8 < v7))) = C.v (vB true), v8 = (j10 : Int), j10 < v6.length, (cs eT131 v6).drop (j10 * 6) = (eT131.f (v6.getD j10 (default : T131)) ++ (cs eT131 (v6.drop (j10 + 1)))), cs eT131 v6 ≠ [], CallOK Try.prog 169 [.ro (.ag [(vI .i64 ((v6.getD j10 (default : T131)).f0)), (vI .i64 ((v6.getD j10 (default : T131)).f1)), (vI .i64 ((v6.getD j10 (default : T131)).f2)), (vI .i64 ((v6.getD j10 (default : T131)).f3)), (vI .i64 ((v6.getD j10 (default : T131)).f4)), (vI .i64 ((v6.getD j10 (default : T131)).f5))])] [] (vB r12), C.v (vB (!r12)) = C.v (vB true), (false : Bool) = false])
        (by kernel_rfl) ⟨vbB h9, (idx_S h11).1, (idx_S h11).2, cs_from (e := eT131) (d := (default : T131)) (idx_S h11).2, cs_ne (e := eT131) (idx_S h11).2 (by decide), F169.fn_c fuel (v6.getD j10 (default : T131)) _ h13, vbB h14, rfl, trivial⟩ (fun st hl => ⟨rfl, hl⟩)
    · 
      exact runAt_S (Q := Round _ (n + 1) _) (n := 100000) (c := (.code L0)) (K := []) (s := (I0 many1 b2 b3 b4 b5 v6 v7 v8).sl) (e := .normal) (t := I0 many1 b2 b3 b4 b5 v6 v7 (w64 (v8 + 1))) (l := [(0, 0)])
        (hs := [hA, .g (.env 14 (C.v (vB true))), .h (.idv j10 (eT131.f (v6.getD j10 (default : T131)) ++ (cs eT131 (v6.drop (j10 + 1))))), hA, .h (.new 1), hA, hA, .call ⟨[.ro], 9, [], true, [], (vB r12), [], 2⟩, hA, .g (.env 19 (C.v (vB false))), hA])
        (ps := [C.v (vB (decide (v8 < v7))) = C.v (vB true), v8 = (j10 : Int), j10 < v6.length, (cs eT131 v6).drop (j10 * 6) = (eT131.f (v6.getD j10 (default : T131)) ++ (cs eT131 (v6.drop (j10 + 1)))), cs eT131 v6 ≠ [], CallOK Try.prog 169 [.ro (.ag [(vI .i64 ((v6.getD j10 (default : T131)).f0)), (vI .i64 ((v6.getD j10 (default : T131)).f1)), (vI .i64 ((v6.getD j10 (default : T131)).f2)), (vI .i64 ((v6.getD j10 (default : T131)).f3)), (vI .i64 ((v6.getD j10 (default : T131)).f4)), (vI .i64 ((v6.getD j10 (default : T131)).f5))])] [] (vB r12), C.v (vB (!r12)) = C.v (vB false), (many1 : Int) = many1, 0 = 0, ((vS eT131 v6) : V) = (vS eT131 v6), (v7 : Int) = v7, (w64 (v8 + 1) : Int) = (w64 (v8 + 1)), ((vS eT131 b2) : V) = (vS eT131 b2), (b3 : Int) = b3, (b4 : Int) = b4, ((vS eJ b5) : V) = (vS eJ b5)])
        (by kernel_rfl) ⟨vbB h9, (idx_S h11).1, (idx_S h11).2, cs_from (e := eT131) (d := (default : T131)) (idx_S h11).2, cs_ne (e := eT131) (idx_S h11).2 (by decide), F169.fn_c fuel (v6.getD j10 (default : T131)) _ h13, vbB h14, rfl, rfl, rfl, rfl, rfl, rfl, rfl, rfl, rfl, trivial⟩ (fun st hl => ⟨n, _, Nat.lt_succ_self n, hl, w64 (v8 + 1), rfl, rfl, h⟩)
  · 
    obtain rfl := Option.some.inj h
    exact runAt_S (Q := Round _ (n + 1) _) (n := 100000) (c := (.code L0)) (K := []) (s := (I0 many1 b2 b3 b4 b5 v6 v7 v8).sl) (e := (.exit 0)) (t := J0_1 many1 b2 b3 b4 b5 v6 v7 ()) (l := [(0, 0)])
      (hs := [hA, .g (.env 14 (C.v (vB false)))])
      (ps := [C.v (vB (decide (v8 < v7))) = C.v (vB false), (many1 : Int) = many1, 0 = 0, ((vS eT131 b2) : V) = (vS eT131 b2), (b3 : Int) = b3, (b4 : Int) = b4, ((vS eJ b5) : V) = (vS eJ b5)])
      (by kernel_rfl) ⟨vbB h9, rfl, rfl, rfl, rfl, rfl, rfl, trivial⟩ (fun st hl => ⟨rfl, hl⟩)
def I1 (many19 : Int) (b20 : List T131) (b21 : Int) (b22 : Int) (b23 : List Int) (v24 : List Int) (v25 : Int) (v26 : Int) : TL := ⟨104, [C.dead, C.dead], [(1, C.v (vI .i64 many19)), (2, C.pr 0 0), (22, C.v (vS eJ v24)), (23, C.v (vI .i64 v25)), (24, C.v (vI .i64 v26))], [], [(0, [C.v (vS eT131 b20), C.own (vI .i64 b21), C.own (vI .i64 b22), C.v (vS eJ b23)])]⟩
def J1_0 (many19 : Int) (b20 : List T131) (b21 : Int) (b22 : Int) (b23 : List Int) (v24 : List Int) (v25 : Int) (o : Unit) : TL := ⟨104, [C.dead, C.dead], [(4, C.v (vB false))], [], []⟩
def J1_1 (many19 : Int) (b20 : List T131) (b21 : Int) (b22 : Int) (b23 : List Int) (v24 : List Int) (v25 : Int) (o : Unit) : TL := ⟨104, [C.dead, C.dead], [(2, C.pr 0 0)], [], [(0, [C.v (vS eT131 b20), C.own (vI .i64 b21), C.own (vI .i64 b22), C.v (vS eJ b23)])]⟩
def Q1 (many19 : Int) (b20 : List T131) (b21 : Int) (b22 : Int) (b23 : List Int) (v24 : List Int) (v25 : Int) (r : Unit ⊕ Unit) (e : Exit) (st : St) : Prop := (Sum.elim (fun o => e = .ret ∧ Le st (J1_0 many19 b20 b21 b22 b23 v24 v25 o).sl.st) (fun o => e = (.exit 2) ∧ Le st (J1_1 many19 b20 b21 b22 b23 v24 v25 o).sl.st)) r
def p1 (fuel : Nat) (many19 : Int) (b20 : List T131) (b21 : Int) (b22 : Int) (b23 : List Int) (v24 : List Int) (v25 : Int) : Nat → Int → Option (Unit ⊕ Unit)
  | 0, _ => none
  | n + 1, v26 =>
    cond (decide (v26 < v25))
    ((idx v26 v24.length).bind fun j28 =>
      cond (decide ((v24.getD j28 (0 : Int)) < 0))
      (some (.inl ()))
      (cond (decide ((v24.getD j28 (0 : Int)) ≥ many19))
        (some (.inl ()))
        (p1 fuel many19 b20 b21 b22 b23 v24 v25 n (w64 (v26 + 1)))))
    (some (.inr ()))
theorem p1_c (fuel : Nat) (many19 : Int) (b20 : List T131) (b21 : Int) (b22 : Int) (b23 : List Int) (v24 : List Int) (v25 : Int) (n : Nat) (v26 : Int) (r : Unit ⊕ Unit) (h : p1 fuel many19 b20 b21 b22 b23 v24 v25 n v26 = some r) : TW Try.prog (.loop L1) (I1 many19 b20 b21 b22 b23 v24 v25 v26).sl.st (Q1 many19 b20 b21 b22 b23 v24 v25 r) := by
  refine loop_run (σ := Int) (fun x => I1 many19 b20 b21 b22 b23 v24 v25 x) (fun n x => p1 fuel many19 b20 b21 b22 b23 v24 v25 n x) (Q1 many19 b20 b21 b22 b23 v24 v25) ?_ (fun _ => rfl) (x := v26) h
  clear h
  rintro n v26 r h
  replace h : p1 fuel many19 b20 b21 b22 b23 v24 v25 (n + 1) v26 = some r := h
  rw [p1] at h
  rcases cond_cases h with ⟨h27, h⟩ | ⟨h27, h⟩
  · 
    obtain ⟨j28, h29, h⟩ := bind_cases h
    rcases cond_cases h with ⟨h30, h⟩ | ⟨h30, h⟩
    · 
      obtain rfl := Option.some.inj h
      exact runAt_S (Q := Round _ (n + 1) _) (n := 100000) (c := (.code L1)) (K := []) (s := (I1 many19 b20 b21 b22 b23 v24 v25 v26).sl) (e := .ret) (t := J1_0 many19 b20 b21 b22 b23 v24 v25 ()) (l := [])
        (hs := [hA, .g (.env 25 (C.v (vB true))), .h (.idv j28 (eJ.f (v24.getD j28 (0 : Int)) ++ (cs eJ (v24.drop (j28 + 1))))), hA, hA, .skip, .g (.env 30 (C.v (vB true)))])
        (ps := [C.v (vB (decide (v26 < v25))) = C.v (vB true), v26 = (j28 : Int), j28 < v24.length, (cs eJ v24).drop (j28 * 1) = (eJ.f (v24.getD j28 (0 : Int)) ++ (cs eJ (v24.drop (j28 + 1)))), cs eJ v24 ≠ [], C.v (vB (decide ((v24.getD j28 (0 : Int)) < 0))) = C.v (vB true), (false : Bool) = false])
        (by kernel_rfl) ⟨vbB h27, (idx_S h29).1, (idx_S h29).2, cs_from (e := eJ) (d := (0 : Int)) (idx_S h29).2, cs_ne (e := eJ) (idx_S h29).2 (by decide), vbB h30, rfl, trivial⟩ (fun st hl => ⟨rfl, hl⟩)
    · 
      rcases cond_cases h with ⟨h31, h⟩ | ⟨h31, h⟩
      · 
        obtain rfl := Option.some.inj h
        exact runAt_S (Q := Round _ (n + 1) _) (n := 100000) (c := (.code L1)) (K := []) (s := (I1 many19 b20 b21 b22 b23 v24 v25 v26).sl) (e := .ret) (t := J1_0 many19 b20 b21 b22 b23 v24 v25 ()) (l := [])
          (hs := [hA, .g (.env 25 (C.v (vB true))), .h (.idv j28 (eJ.f (v24.getD j28 (0 : Int)) ++ (cs eJ (v24.drop (j28 + 1))))), hA, hA, .skip, .g (.env 30 (C.v (vB false))), hA, .skip, .g (.env 34 (C.v (vB true)))])
          (ps := [C.v (vB (decide (v26 < v25))) = C.v (vB true), v26 = (j28 : Int), j28 < v24.length, (cs eJ v24).drop (j28 * 1) = (eJ.f (v24.getD j28 (0 : Int)) ++ (cs eJ (v24.drop (j28 + 1)))), cs eJ v24 ≠ [], C.v (vB (decide ((v24.getD j28 (0 : Int)) < 0))) = C.v (vB false), C.v (vB (decide ((v24.getD j28 (0 : Int)) ≥ many19))) = C.v (vB true), (false : Bool) = false])
          (by kernel_rfl) ⟨vbB h27, (idx_S h29).1, (idx_S h29).2, cs_from (e := eJ) (d := (0 : Int)) (idx_S h29).2, cs_ne (e := eJ) (idx_S h29).2 (by decide), vbB h30, vbB h31, rfl, trivial⟩ (fun st hl => ⟨rfl, hl⟩)
      · 
        exact runAt_S (Q := Round _ (n + 1) _) (n := 100000) (c := (.code L1)) (K := []) (s := (I1 many19 b20 b21 b22 b23 v24 v25 v26).sl) (e := .normal) (t := I1 many19 b20 b21 b22 b23 v24 v25 (w64 (v26 + 1))) (l := [(0, 0)])
          (hs := [hA, .g (.env 25 (C.v (vB true))), .h (.idv j28 (eJ.f (v24.getD j28 (0 : Int)) ++ (cs eJ (v24.drop (j28 + 1))))), hA, hA, .skip, .g (.env 30 (C.v (vB false))), hA, .skip, .g (.env 34 (C.v (vB false))), hA])
          (ps := [C.v (vB (decide (v26 < v25))) = C.v (vB true), v26 = (j28 : Int), j28 < v24.length, (cs eJ v24).drop (j28 * 1) = (eJ.f (v24.getD j28 (0 : Int)) ++ (cs eJ (v24.drop (j28 + 1)))), cs eJ v24 ≠ [], C.v (vB (decide ((v24.getD j28 (0 : Int)) < 0))) = C.v (vB false), C.v (vB (decide ((v24.getD j28 (0 : Int)) ≥ many19))) = C.v (vB false), (many19 : Int) = many19, 0 = 0, ((vS eJ v24) : V) = (vS eJ v24), (v25 : Int) = v25, (w64 (v26 + 1) : Int) = (w64 (v26 + 1)), ((vS eT131 b20) : V) = (vS eT131 b20), (b21 : Int) = b21, (b22 : Int) = b22, ((vS eJ b23) : V) = (vS eJ b23)])
          (by kernel_rfl) ⟨vbB h27, (idx_S h29).1, (idx_S h29).2, cs_from (e := eJ) (d := (0 : Int)) (idx_S h29).2, cs_ne (e := eJ) (idx_S h29).2 (by decide), vbB h30, vbB h31, rfl, rfl, rfl, rfl, rfl, rfl, rfl, rfl, rfl, trivial⟩ (fun st hl => ⟨n, _, Nat.lt_succ_self n, hl, w64 (v26 + 1), rfl, rfl, h⟩)
  · 
    obtain rfl := Option.some.inj h
    exact runAt_S (Q := Round _ (n + 1) _) (n := 100000) (c := (.code L1)) (K := []) (s := (I1 many19 b20 b21 b22 b23 v24 v25 v26).sl) (e := (.exit 2)) (t := J1_1 many19 b20 b21 b22 b23 v24 v25 ()) (l := [(0, 0)])
      (hs := [hA, .g (.env 25 (C.v (vB false)))])
      (ps := [C.v (vB (decide (v26 < v25))) = C.v (vB false), 0 = 0, ((vS eT131 b20) : V) = (vS eT131 b20), (b21 : Int) = b21, (b22 : Int) = b22, ((vS eJ b23) : V) = (vS eJ b23)])
      (by kernel_rfl) ⟨vbB h27, rfl, rfl, rfl, rfl, rfl, trivial⟩ (fun st hl => ⟨rfl, hl⟩)
def I2 (b37 : List T131) (b38 : Int) (b39 : Int) (b40 : List Int) (n41 : Int) : TL := ⟨104, [C.dead, C.dead], [(2, C.pr 0 0), (9, C.v (vI .i64 n41))], [], [(0, [C.v (vS eT131 b37), C.own (vI .i64 b38), C.own (vI .i64 b39), C.v (vS eJ b40)])]⟩
def J2_0 (b37 : List T131) (b38 : Int) (b39 : Int) (b40 : List Int) (n41 : Int) (o : Bool) : TL := ⟨104, [C.dead, C.dead], [(4, C.v (vB o))], [], []⟩
def Q2 (b37 : List T131) (b38 : Int) (b39 : Int) (b40 : List Int) (n41 : Int) (r : Bool) (e : Exit) (st : St) : Prop := (fun o => e = .normal ∧ Le st (J2_0 b37 b38 b39 b40 n41 o).sl.st) r
def p2 (fuel : Nat) (b37 : List T131) (b38 : Int) (b39 : Int) (b40 : List Int) (n41 : Int) : Option Bool :=
  cond (decide (n41 = 1))
  (cond (decide (b39 = 0))
    (some (decide ((b37.length : Int) ≤ 60)))
    (some false))
  (some false)
theorem p2_c (fuel : Nat) (b37 : List T131) (b38 : Int) (b39 : Int) (b40 : List Int) (n41 : Int) (r : Bool) (h : p2 fuel b37 b38 b39 b40 n41 = some r) : TW Try.prog B2 (I2 b37 b38 b39 b40 n41).sl.st (Q2 b37 b38 b39 b40 n41 r) := by
  unfold p2 at h
  rcases cond_cases h with ⟨h42, h⟩ | ⟨h42, h⟩
  · 
    rcases cond_cases h with ⟨h43, h⟩ | ⟨h43, h⟩
    · 
      obtain rfl := Option.some.inj h
      exact runAt_S (Q := Q2 b37 b38 b39 b40 n41 _) (n := 100000) (c := (.code B2)) (K := []) (s := (I2 b37 b38 b39 b40 n41).sl) (e := .normal) (t := J2_0 b37 b38 b39 b40 n41 (decide ((b37.length : Int) ≤ 60))) (l := [])
        (hs := [hA, .skip, .g (.env 45 (C.v (vB true))), hA, hA, .skip, .skip, .g (.env 50 (C.v (vB true))), hA, hA, hA])
        (ps := [C.v (vB (decide (n41 = 1))) = C.v (vB true), C.v (vB (decide (b39 = 0))) = C.v (vB true), (decide ((b37.length : Int) ≤ 60) : Bool) = (decide ((b37.length : Int) ≤ 60))])
        (by kernel_rfl) ⟨vbB h42, vbB h43, rfl, trivial⟩ (fun st hl => ⟨rfl, hl⟩)
    · 
      obtain rfl := Option.some.inj h
      exact runAt_S (Q := Q2 b37 b38 b39 b40 n41 _) (n := 100000) (c := (.code B2)) (K := []) (s := (I2 b37 b38 b39 b40 n41).sl) (e := .normal) (t := J2_0 b37 b38 b39 b40 n41 false) (l := [])
        (hs := [hA, .skip, .g (.env 45 (C.v (vB true))), hA, hA, .skip, .skip, .g (.env 50 (C.v (vB false)))])
        (ps := [C.v (vB (decide (n41 = 1))) = C.v (vB true), C.v (vB (decide (b39 = 0))) = C.v (vB false), (false : Bool) = false])
        (by kernel_rfl) ⟨vbB h42, vbB h43, rfl, trivial⟩ (fun st hl => ⟨rfl, hl⟩)
  · 
    obtain rfl := Option.some.inj h
    exact runAt_S (Q := Q2 b37 b38 b39 b40 n41 _) (n := 100000) (c := (.code B2)) (K := []) (s := (I2 b37 b38 b39 b40 n41).sl) (e := .normal) (t := J2_0 b37 b38 b39 b40 n41 false) (l := [])
      (hs := [hA, .skip, .g (.env 45 (C.v (vB false)))])
      (ps := [C.v (vB (decide (n41 = 1))) = C.v (vB false), (false : Bool) = false])
      (by kernel_rfl) ⟨vbB h42, rfl, trivial⟩ (fun st hl => ⟨rfl, hl⟩)
def I3 (b47 : List T131) (b48 : Int) (b49 : Int) (b50 : List Int) (n51 : Int) : TL := ⟨104, [C.dead, C.dead], [(2, C.pr 0 0), (9, C.v (vI .i64 n51))], [], [(0, [C.v (vS eT131 b47), C.own (vI .i64 b48), C.own (vI .i64 b49), C.v (vS eJ b50)])]⟩
def J3_0 (b47 : List T131) (b48 : Int) (b49 : Int) (b50 : List Int) (n51 : Int) (o : Bool) : TL := ⟨104, [C.dead, C.dead], [(4, C.v (vB o))], [], []⟩
def Q3 (b47 : List T131) (b48 : Int) (b49 : Int) (b50 : List Int) (n51 : Int) (r : Bool) (e : Exit) (st : St) : Prop := (fun o => e = .normal ∧ Le st (J3_0 b47 b48 b49 b50 n51 o).sl.st) r
def p3 (fuel : Nat) (b47 : List T131) (b48 : Int) (b49 : Int) (b50 : List Int) (n51 : Int) : Option Bool :=
  cond (decide (n51 = 2))
  ((F212.fn fuel b49).bind fun r53 =>
    cond (r53)
    (some (decide ((b47.length : Int) ≤ 60)))
    (some false))
  (some false)
theorem p3_c (fuel : Nat) (b47 : List T131) (b48 : Int) (b49 : Int) (b50 : List Int) (n51 : Int) (r : Bool) (h : p3 fuel b47 b48 b49 b50 n51 = some r) : TW Try.prog B3 (I3 b47 b48 b49 b50 n51).sl.st (Q3 b47 b48 b49 b50 n51 r) := by
  unfold p3 at h
  rcases cond_cases h with ⟨h52, h⟩ | ⟨h52, h⟩
  · 
    obtain ⟨r53, h54, h⟩ := bind_cases h
    rcases cond_cases h with ⟨h55, h⟩ | ⟨h55, h⟩
    · 
      obtain rfl := Option.some.inj h
      exact runAt_S (Q := Q3 b47 b48 b49 b50 n51 _) (n := 100000) (c := (.code B3)) (K := []) (s := (I3 b47 b48 b49 b50 n51).sl) (e := .normal) (t := J3_0 b47 b48 b49 b50 n51 (decide ((b47.length : Int) ≤ 60))) (l := [])
        (hs := [hA, .skip, .g (.env 60 (C.v (vB true))), hA, .call ⟨[.ro], 9, [], true, [], (vB r53), [], 1⟩, .skip, .skip, .g (.env 65 (C.v (vB true))), hA, hA, hA])
        (ps := [C.v (vB (decide (n51 = 2))) = C.v (vB true), CallOK Try.prog 212 [.ro (vI .i64 b49)] [] (vB r53), C.v (vB r53) = C.v (vB true), (decide ((b47.length : Int) ≤ 60) : Bool) = (decide ((b47.length : Int) ≤ 60))])
        (by kernel_rfl) ⟨vbB h52, F212.fn_c fuel b49 _ h54, vbB h55, rfl, trivial⟩ (fun st hl => ⟨rfl, hl⟩)
    · 
      obtain rfl := Option.some.inj h
      exact runAt_S (Q := Q3 b47 b48 b49 b50 n51 _) (n := 100000) (c := (.code B3)) (K := []) (s := (I3 b47 b48 b49 b50 n51).sl) (e := .normal) (t := J3_0 b47 b48 b49 b50 n51 false) (l := [])
        (hs := [hA, .skip, .g (.env 60 (C.v (vB true))), hA, .call ⟨[.ro], 9, [], true, [], (vB r53), [], 1⟩, .skip, .skip, .g (.env 65 (C.v (vB false)))])
        (ps := [C.v (vB (decide (n51 = 2))) = C.v (vB true), CallOK Try.prog 212 [.ro (vI .i64 b49)] [] (vB r53), C.v (vB r53) = C.v (vB false), (false : Bool) = false])
        (by kernel_rfl) ⟨vbB h52, F212.fn_c fuel b49 _ h54, vbB h55, rfl, trivial⟩ (fun st hl => ⟨rfl, hl⟩)
  · 
    obtain rfl := Option.some.inj h
    exact runAt_S (Q := Q3 b47 b48 b49 b50 n51 _) (n := 100000) (c := (.code B3)) (K := []) (s := (I3 b47 b48 b49 b50 n51).sl) (e := .normal) (t := J3_0 b47 b48 b49 b50 n51 false) (l := [])
      (hs := [hA, .skip, .g (.env 60 (C.v (vB false)))])
      (ps := [C.v (vB (decide (n51 = 2))) = C.v (vB false), (false : Bool) = false])
      (by kernel_rfl) ⟨vbB h52, rfl, trivial⟩ (fun st hl => ⟨rfl, hl⟩)
def I4 (b59 : List T131) (b60 : Int) (b61 : Int) (b62 : List Int) (n63 : Int) : TL := ⟨104, [C.dead, C.dead], [(2, C.pr 0 0), (9, C.v (vI .i64 n63))], [], [(0, [C.v (vS eT131 b59), C.own (vI .i64 b60), C.own (vI .i64 b61), C.v (vS eJ b62)])]⟩
def J4_0 (b59 : List T131) (b60 : Int) (b61 : Int) (b62 : List Int) (n63 : Int) (o : Bool) : TL := ⟨104, [C.dead, C.dead], [(4, C.v (vB o))], [], []⟩
def Q4 (b59 : List T131) (b60 : Int) (b61 : Int) (b62 : List Int) (n63 : Int) (r : Bool) (e : Exit) (st : St) : Prop := (fun o => e = .normal ∧ Le st (J4_0 b59 b60 b61 b62 n63 o).sl.st) r
def p4 (fuel : Nat) (b59 : List T131) (b60 : Int) (b61 : Int) (b62 : List Int) (n63 : Int) : Option Bool :=
  (F151.fn fuel n63 2 6).bind fun r64 =>
  cond (r64)
  ((F212.fn fuel b61).bind fun r67 =>
    cond (r67)
    (some (decide ((b59.length : Int) ≤ 60)))
    (some false))
  (some false)
theorem p4_c (fuel : Nat) (b59 : List T131) (b60 : Int) (b61 : Int) (b62 : List Int) (n63 : Int) (r : Bool) (h : p4 fuel b59 b60 b61 b62 n63 = some r) : TW Try.prog B4 (I4 b59 b60 b61 b62 n63).sl.st (Q4 b59 b60 b61 b62 n63 r) := by
  unfold p4 at h
  obtain ⟨r64, h65, h⟩ := bind_cases h
  rcases cond_cases h with ⟨h66, h⟩ | ⟨h66, h⟩
  · 
    obtain ⟨r67, h68, h⟩ := bind_cases h
    rcases cond_cases h with ⟨h69, h⟩ | ⟨h69, h⟩
    · 
      obtain rfl := Option.some.inj h
      exact runAt_S (Q := Q4 b59 b60 b61 b62 n63 _) (n := 100000) (c := (.code B4)) (K := []) (s := (I4 b59 b60 b61 b62 n63).sl) (e := .normal) (t := J4_0 b59 b60 b61 b62 n63 (decide ((b59.length : Int) ≤ 60))) (l := [])
        (hs := [.call ⟨[.ro, .ro, .ro], 9, [], true, [], (vB r64), [], 1⟩, .skip, .g (.env 75 (C.v (vB true))), hA, .call ⟨[.ro], 9, [], true, [], (vB r67), [], 1⟩, .skip, .skip, .g (.env 80 (C.v (vB true))), hA, hA, hA])
        (ps := [CallOK Try.prog 151 [.ro (vI .i64 n63), .ro (vI .i64 2), .ro (vI .i64 6)] [] (vB r64), C.v (vB r64) = C.v (vB true), CallOK Try.prog 212 [.ro (vI .i64 b61)] [] (vB r67), C.v (vB r67) = C.v (vB true), (decide ((b59.length : Int) ≤ 60) : Bool) = (decide ((b59.length : Int) ≤ 60))])
        (by kernel_rfl) ⟨F151.fn_c fuel n63 2 6 _ h65, vbB h66, F212.fn_c fuel b61 _ h68, vbB h69, rfl, trivial⟩ (fun st hl => ⟨rfl, hl⟩)
    · 
      obtain rfl := Option.some.inj h
      exact runAt_S (Q := Q4 b59 b60 b61 b62 n63 _) (n := 100000) (c := (.code B4)) (K := []) (s := (I4 b59 b60 b61 b62 n63).sl) (e := .normal) (t := J4_0 b59 b60 b61 b62 n63 false) (l := [])
        (hs := [.call ⟨[.ro, .ro, .ro], 9, [], true, [], (vB r64), [], 1⟩, .skip, .g (.env 75 (C.v (vB true))), hA, .call ⟨[.ro], 9, [], true, [], (vB r67), [], 1⟩, .skip, .skip, .g (.env 80 (C.v (vB false)))])
        (ps := [CallOK Try.prog 151 [.ro (vI .i64 n63), .ro (vI .i64 2), .ro (vI .i64 6)] [] (vB r64), C.v (vB r64) = C.v (vB true), CallOK Try.prog 212 [.ro (vI .i64 b61)] [] (vB r67), C.v (vB r67) = C.v (vB false), (false : Bool) = false])
        (by kernel_rfl) ⟨F151.fn_c fuel n63 2 6 _ h65, vbB h66, F212.fn_c fuel b61 _ h68, vbB h69, rfl, trivial⟩ (fun st hl => ⟨rfl, hl⟩)
  · 
    obtain rfl := Option.some.inj h
    exact runAt_S (Q := Q4 b59 b60 b61 b62 n63 _) (n := 100000) (c := (.code B4)) (K := []) (s := (I4 b59 b60 b61 b62 n63).sl) (e := .normal) (t := J4_0 b59 b60 b61 b62 n63 false) (l := [])
      (hs := [.call ⟨[.ro, .ro, .ro], 9, [], true, [], (vB r64), [], 1⟩, .skip, .g (.env 75 (C.v (vB false)))])
      (ps := [CallOK Try.prog 151 [.ro (vI .i64 n63), .ro (vI .i64 2), .ro (vI .i64 6)] [] (vB r64), C.v (vB r64) = C.v (vB false), (false : Bool) = false])
      (by kernel_rfl) ⟨F151.fn_c fuel n63 2 6 _ h65, vbB h66, rfl, trivial⟩ (fun st hl => ⟨rfl, hl⟩)
def fn (fuel : Nat) (b0 : T115) (many1 : Int) : Option Bool :=
  (p0 fuel many1 b0.f0 b0.f1 b0.f2 b0.f3 b0.f0 (b0.f0.length : Int) fuel (0 : Int)).bind fun r15 =>
  (Sum.elim (fun y17 => some false)
  (fun y18 => (p1 fuel many1 b0.f0 b0.f1 b0.f2 b0.f3 b0.f3 (b0.f3.length : Int) fuel (0 : Int)).bind fun r32 =>
    (Sum.elim (fun y34 => some false)
    (fun y35 => cond (decide (b0.f1 = 1))
      ((p2 fuel b0.f0 b0.f1 b0.f2 b0.f3 (b0.f3.length : Int)).bind fun r44 =>
        some r44)
      (cond (decide (b0.f1 = 2))
        ((p3 fuel b0.f0 b0.f1 b0.f2 b0.f3 (b0.f3.length : Int)).bind fun r56 =>
          some r56)
        (cond (decide (b0.f1 = 5))
          ((p4 fuel b0.f0 b0.f1 b0.f2 b0.f3 (b0.f3.length : Int)).bind fun r70 =>
            some r70)
          ((F151.fn fuel b0.f1 3 4).bind fun r72 =>
            cond (r72)
            (cond (decide ((b0.f3.length : Int) = 0))
              (cond (decide (b0.f2 = 0))
                (some (decide ((b0.f0.length : Int) ≤ 60)))
                (some false))
              (some false))
            (some false)))))) r32)) r15
theorem ent : enterable Try.prog 150 = true := by kernel_rfl
theorem fn_c (fuel : Nat) (b0 : T115) (many1 : Int) (r : Bool) (h : fn fuel b0 many1 = some r) : CallOK Try.prog 150 [.ro (.ag (eT115.f b0)), .ro (vI .i64 many1)] [] (vB r) := by
  refine contract_run Try.func150 (b := bod Try.f150) rfl ent ?_
  unfold fn at h
  obtain ⟨r15, h16, h⟩ := bind_cases h
  refine runTo_S (n := 100000) (c := (.code (bod Try.f150))) (K := []) (b := (.code (.loop L0))) (K1 := K0) (t := I0 many1 b0.f0 b0.f1 b0.f2 b0.f3 b0.f0 (b0.f0.length : Int) (0 : Int)) (l := [(0, 0)])
    (hs := [.h (.new 0), hA, hA])
    (ps := [(many1 : Int) = many1, 0 = 0, ((vS eT131 b0.f0) : V) = (vS eT131 b0.f0), ((b0.f0.length : Int) : Int) = (b0.f0.length : Int), (0 : Int) = (0 : Int), ((vS eT131 b0.f0) : V) = (vS eT131 b0.f0), (b0.f1 : Int) = b0.f1, (b0.f2 : Int) = b0.f2, ((vS eJ b0.f3) : V) = (vS eJ b0.f3)])
    (by kernel_rfl) ⟨rfl, rfl, rfl, rfl, rfl, rfl, rfl, rfl, rfl, trivial⟩ (cut_code ?_)
  refine TW.mono_le (p0_c fuel many1 b0.f0 b0.f1 b0.f2 b0.f3 b0.f0 (b0.f0.length : Int) fuel (0 : Int) _ h16) ?_
  rcases r15 with y17 | y18
  · 
    replace h := sum_l h
    rintro e st hq
    obtain ⟨rfl, hl⟩ := hq
    refine ⟨_, hl, ?_⟩
    obtain rfl := Option.some.inj h
    exact runRet_S (r := ⟨Try.f150.results.toList, _, _, _, [], 9⟩) (n := 100000) (c := (.out .ret)) (K := K0) (s := (J0_0 many1 b0.f0 b0.f1 b0.f2 b0.f3 b0.f0 (b0.f0.length : Int) y17).sl)
      (hs := [])
      (ps := [(false : Bool) = false])
      (by kernel_rfl) ⟨rfl, trivial⟩ rfl (fun _ _ h => h)
  · 
    replace h := sum_r h
    rintro e st hq
    obtain ⟨rfl, hl⟩ := hq
    refine ⟨_, hl, ?_⟩
    obtain ⟨r32, h33, h⟩ := bind_cases h
    refine runTo_S (n := 100000) (c := (.out (.exit 0))) (K := K0) (s := (J0_1 many1 b0.f0 b0.f1 b0.f2 b0.f3 b0.f0 (b0.f0.length : Int) y18).sl) (b := (.code (.loop L1))) (K1 := K1) (t := I1 many1 b0.f0 b0.f1 b0.f2 b0.f3 b0.f3 (b0.f3.length : Int) (0 : Int)) (l := [(0, 0)])
      (hs := [hA, hA])
      (ps := [(many1 : Int) = many1, 0 = 0, ((vS eJ b0.f3) : V) = (vS eJ b0.f3), ((b0.f3.length : Int) : Int) = (b0.f3.length : Int), (0 : Int) = (0 : Int), ((vS eT131 b0.f0) : V) = (vS eT131 b0.f0), (b0.f1 : Int) = b0.f1, (b0.f2 : Int) = b0.f2, ((vS eJ b0.f3) : V) = (vS eJ b0.f3)])
      (by kernel_rfl) ⟨rfl, rfl, rfl, rfl, rfl, rfl, rfl, rfl, rfl, trivial⟩ (cut_code ?_)
    refine TW.mono_le (p1_c fuel many1 b0.f0 b0.f1 b0.f2 b0.f3 b0.f3 (b0.f3.length : Int) fuel (0 : Int) _ h33) ?_
    rcases r32 with y34 | y35
    · 
      replace h := sum_l h
      rintro e st hq
      obtain ⟨rfl, hl⟩ := hq
      refine ⟨_, hl, ?_⟩
      obtain rfl := Option.some.inj h
      exact runRet_S (r := ⟨Try.f150.results.toList, _, _, _, [], 9⟩) (n := 100000) (c := (.out .ret)) (K := K1) (s := (J1_0 many1 b0.f0 b0.f1 b0.f2 b0.f3 b0.f3 (b0.f3.length : Int) y34).sl)
        (hs := [])
        (ps := [(false : Bool) = false])
        (by kernel_rfl) ⟨rfl, trivial⟩ rfl (fun _ _ h => h)
    · 
      replace h := sum_r h
      rintro e st hq
      obtain ⟨rfl, hl⟩ := hq
      refine ⟨_, hl, ?_⟩
      rcases cond_cases h with ⟨h36, h⟩ | ⟨h36, h⟩
      · 
        obtain ⟨r44, h45, h⟩ := bind_cases h
        refine runTo_S (n := 15) (c := (.out (.exit 2))) (K := K1) (s := (J1_1 many1 b0.f0 b0.f1 b0.f2 b0.f3 b0.f3 (b0.f3.length : Int) y35).sl) (b := (.code B2)) (K1 := K2) (t := I2 b0.f0 b0.f1 b0.f2 b0.f3 (b0.f3.length : Int)) (l := [(0, 0)])
          (hs := [hA, hA, hA, hA, .skip, .g (.env 41 (C.v (vB true)))])
          (ps := [C.v (vB (decide (b0.f1 = 1))) = C.v (vB true), 0 = 0, ((b0.f3.length : Int) : Int) = (b0.f3.length : Int), ((vS eT131 b0.f0) : V) = (vS eT131 b0.f0), (b0.f1 : Int) = b0.f1, (b0.f2 : Int) = b0.f2, ((vS eJ b0.f3) : V) = (vS eJ b0.f3)])
          (by kernel_rfl) ⟨vbB h36, rfl, rfl, rfl, rfl, rfl, rfl, trivial⟩ (cut_code ?_)
        refine TW.mono_le (p2_c fuel b0.f0 b0.f1 b0.f2 b0.f3 (b0.f3.length : Int) _ h45) ?_
        rintro e st hq
        obtain ⟨rfl, hl⟩ := hq
        refine ⟨_, hl, ?_⟩
        obtain rfl := Option.some.inj h
        exact runRet_S (r := ⟨Try.f150.results.toList, _, _, _, [], 9⟩) (n := 100000) (c := (.out .normal)) (K := K2) (s := (J2_0 b0.f0 b0.f1 b0.f2 b0.f3 (b0.f3.length : Int) r44).sl)
          (hs := [])
          (ps := [(r44 : Bool) = r44])
          (by kernel_rfl) ⟨rfl, trivial⟩ rfl (fun _ _ h => h)
      · 
        rcases cond_cases h with ⟨h46, h⟩ | ⟨h46, h⟩
        · 
          obtain ⟨r56, h57, h⟩ := bind_cases h
          refine runTo_S (n := 19) (c := (.out (.exit 2))) (K := K1) (s := (J1_1 many1 b0.f0 b0.f1 b0.f2 b0.f3 b0.f3 (b0.f3.length : Int) y35).sl) (b := (.code B3)) (K1 := K3) (t := I3 b0.f0 b0.f1 b0.f2 b0.f3 (b0.f3.length : Int)) (l := [(0, 0)])
            (hs := [hA, hA, hA, hA, .skip, .g (.env 41 (C.v (vB false))), hA, .skip, .g (.env 56 (C.v (vB true)))])
            (ps := [C.v (vB (decide (b0.f1 = 1))) = C.v (vB false), C.v (vB (decide (b0.f1 = 2))) = C.v (vB true), 0 = 0, ((b0.f3.length : Int) : Int) = (b0.f3.length : Int), ((vS eT131 b0.f0) : V) = (vS eT131 b0.f0), (b0.f1 : Int) = b0.f1, (b0.f2 : Int) = b0.f2, ((vS eJ b0.f3) : V) = (vS eJ b0.f3)])
            (by kernel_rfl) ⟨vbB h36, vbB h46, rfl, rfl, rfl, rfl, rfl, rfl, trivial⟩ (cut_code ?_)
          refine TW.mono_le (p3_c fuel b0.f0 b0.f1 b0.f2 b0.f3 (b0.f3.length : Int) _ h57) ?_
          rintro e st hq
          obtain ⟨rfl, hl⟩ := hq
          refine ⟨_, hl, ?_⟩
          obtain rfl := Option.some.inj h
          exact runRet_S (r := ⟨Try.f150.results.toList, _, _, _, [], 9⟩) (n := 100000) (c := (.out .normal)) (K := K3) (s := (J3_0 b0.f0 b0.f1 b0.f2 b0.f3 (b0.f3.length : Int) r56).sl)
            (hs := [])
            (ps := [(r56 : Bool) = r56])
            (by kernel_rfl) ⟨rfl, trivial⟩ rfl (fun _ _ h => h)
        · 
          rcases cond_cases h with ⟨h58, h⟩ | ⟨h58, h⟩
          · 
            obtain ⟨r70, h71, h⟩ := bind_cases h
            refine runTo_S (n := 23) (c := (.out (.exit 2))) (K := K1) (s := (J1_1 many1 b0.f0 b0.f1 b0.f2 b0.f3 b0.f3 (b0.f3.length : Int) y35).sl) (b := (.code B4)) (K1 := K4) (t := I4 b0.f0 b0.f1 b0.f2 b0.f3 (b0.f3.length : Int)) (l := [(0, 0)])
              (hs := [hA, hA, hA, hA, .skip, .g (.env 41 (C.v (vB false))), hA, .skip, .g (.env 56 (C.v (vB false))), hA, .skip, .g (.env 71 (C.v (vB true)))])
              (ps := [C.v (vB (decide (b0.f1 = 1))) = C.v (vB false), C.v (vB (decide (b0.f1 = 2))) = C.v (vB false), C.v (vB (decide (b0.f1 = 5))) = C.v (vB true), 0 = 0, ((b0.f3.length : Int) : Int) = (b0.f3.length : Int), ((vS eT131 b0.f0) : V) = (vS eT131 b0.f0), (b0.f1 : Int) = b0.f1, (b0.f2 : Int) = b0.f2, ((vS eJ b0.f3) : V) = (vS eJ b0.f3)])
              (by kernel_rfl) ⟨vbB h36, vbB h46, vbB h58, rfl, rfl, rfl, rfl, rfl, rfl, trivial⟩ (cut_code ?_)
            refine TW.mono_le (p4_c fuel b0.f0 b0.f1 b0.f2 b0.f3 (b0.f3.length : Int) _ h71) ?_
            rintro e st hq
            obtain ⟨rfl, hl⟩ := hq
            refine ⟨_, hl, ?_⟩
            obtain rfl := Option.some.inj h
            exact runRet_S (r := ⟨Try.f150.results.toList, _, _, _, [], 9⟩) (n := 100000) (c := (.out .normal)) (K := K4) (s := (J4_0 b0.f0 b0.f1 b0.f2 b0.f3 (b0.f3.length : Int) r70).sl)
              (hs := [])
              (ps := [(r70 : Bool) = r70])
              (by kernel_rfl) ⟨rfl, trivial⟩ rfl (fun _ _ h => h)
          · 
            obtain ⟨r72, h73, h⟩ := bind_cases h
            rcases cond_cases h with ⟨h74, h⟩ | ⟨h74, h⟩
            · 
              rcases cond_cases h with ⟨h75, h⟩ | ⟨h75, h⟩
              · 
                rcases cond_cases h with ⟨h76, h⟩ | ⟨h76, h⟩
                · 
                  obtain rfl := Option.some.inj h
                  exact runRet_S (r := ⟨Try.f150.results.toList, _, _, _, [], 9⟩) (n := 100000) (c := (.out (.exit 2))) (K := K1) (s := (J1_1 many1 b0.f0 b0.f1 b0.f2 b0.f3 b0.f3 (b0.f3.length : Int) y35).sl)
                    (hs := [hA, hA, hA, hA, .skip, .g (.env 41 (C.v (vB false))), hA, .skip, .g (.env 56 (C.v (vB false))), hA, .skip, .g (.env 71 (C.v (vB false))), hA, .call ⟨[.ro, .ro, .ro], 9, [], true, [], (vB r72), [], 1⟩, .skip, .g (.env 89 (C.v (vB true))), hA, .skip, .skip, .g (.env 93 (C.v (vB true))), hA, hA, .skip, .skip, .g (.env 98 (C.v (vB true))), hA, hA, hA])
                    (ps := [C.v (vB (decide (b0.f1 = 1))) = C.v (vB false), C.v (vB (decide (b0.f1 = 2))) = C.v (vB false), C.v (vB (decide (b0.f1 = 5))) = C.v (vB false), CallOK Try.prog 151 [.ro (vI .i64 b0.f1), .ro (vI .i64 3), .ro (vI .i64 4)] [] (vB r72), C.v (vB r72) = C.v (vB true), C.v (vB (decide ((b0.f3.length : Int) = 0))) = C.v (vB true), C.v (vB (decide (b0.f2 = 0))) = C.v (vB true), (decide ((b0.f0.length : Int) ≤ 60) : Bool) = (decide ((b0.f0.length : Int) ≤ 60))])
                    (by kernel_rfl) ⟨vbB h36, vbB h46, vbB h58, F151.fn_c fuel b0.f1 3 4 _ h73, vbB h74, vbB h75, vbB h76, rfl, trivial⟩ rfl (fun _ _ h => h)
                · 
                  obtain rfl := Option.some.inj h
                  exact runRet_S (r := ⟨Try.f150.results.toList, _, _, _, [], 9⟩) (n := 100000) (c := (.out (.exit 2))) (K := K1) (s := (J1_1 many1 b0.f0 b0.f1 b0.f2 b0.f3 b0.f3 (b0.f3.length : Int) y35).sl)
                    (hs := [hA, hA, hA, hA, .skip, .g (.env 41 (C.v (vB false))), hA, .skip, .g (.env 56 (C.v (vB false))), hA, .skip, .g (.env 71 (C.v (vB false))), hA, .call ⟨[.ro, .ro, .ro], 9, [], true, [], (vB r72), [], 1⟩, .skip, .g (.env 89 (C.v (vB true))), hA, .skip, .skip, .g (.env 93 (C.v (vB true))), hA, hA, .skip, .skip, .g (.env 98 (C.v (vB false)))])
                    (ps := [C.v (vB (decide (b0.f1 = 1))) = C.v (vB false), C.v (vB (decide (b0.f1 = 2))) = C.v (vB false), C.v (vB (decide (b0.f1 = 5))) = C.v (vB false), CallOK Try.prog 151 [.ro (vI .i64 b0.f1), .ro (vI .i64 3), .ro (vI .i64 4)] [] (vB r72), C.v (vB r72) = C.v (vB true), C.v (vB (decide ((b0.f3.length : Int) = 0))) = C.v (vB true), C.v (vB (decide (b0.f2 = 0))) = C.v (vB false), (false : Bool) = false])
                    (by kernel_rfl) ⟨vbB h36, vbB h46, vbB h58, F151.fn_c fuel b0.f1 3 4 _ h73, vbB h74, vbB h75, vbB h76, rfl, trivial⟩ rfl (fun _ _ h => h)
              · 
                obtain rfl := Option.some.inj h
                exact runRet_S (r := ⟨Try.f150.results.toList, _, _, _, [], 9⟩) (n := 100000) (c := (.out (.exit 2))) (K := K1) (s := (J1_1 many1 b0.f0 b0.f1 b0.f2 b0.f3 b0.f3 (b0.f3.length : Int) y35).sl)
                  (hs := [hA, hA, hA, hA, .skip, .g (.env 41 (C.v (vB false))), hA, .skip, .g (.env 56 (C.v (vB false))), hA, .skip, .g (.env 71 (C.v (vB false))), hA, .call ⟨[.ro, .ro, .ro], 9, [], true, [], (vB r72), [], 1⟩, .skip, .g (.env 89 (C.v (vB true))), hA, .skip, .skip, .g (.env 93 (C.v (vB false)))])
                  (ps := [C.v (vB (decide (b0.f1 = 1))) = C.v (vB false), C.v (vB (decide (b0.f1 = 2))) = C.v (vB false), C.v (vB (decide (b0.f1 = 5))) = C.v (vB false), CallOK Try.prog 151 [.ro (vI .i64 b0.f1), .ro (vI .i64 3), .ro (vI .i64 4)] [] (vB r72), C.v (vB r72) = C.v (vB true), C.v (vB (decide ((b0.f3.length : Int) = 0))) = C.v (vB false), (false : Bool) = false])
                  (by kernel_rfl) ⟨vbB h36, vbB h46, vbB h58, F151.fn_c fuel b0.f1 3 4 _ h73, vbB h74, vbB h75, rfl, trivial⟩ rfl (fun _ _ h => h)
            · 
              obtain rfl := Option.some.inj h
              exact runRet_S (r := ⟨Try.f150.results.toList, _, _, _, [], 9⟩) (n := 100000) (c := (.out (.exit 2))) (K := K1) (s := (J1_1 many1 b0.f0 b0.f1 b0.f2 b0.f3 b0.f3 (b0.f3.length : Int) y35).sl)
                (hs := [hA, hA, hA, hA, .skip, .g (.env 41 (C.v (vB false))), hA, .skip, .g (.env 56 (C.v (vB false))), hA, .skip, .g (.env 71 (C.v (vB false))), hA, .call ⟨[.ro, .ro, .ro], 9, [], true, [], (vB r72), [], 1⟩, .skip, .g (.env 89 (C.v (vB false)))])
                (ps := [C.v (vB (decide (b0.f1 = 1))) = C.v (vB false), C.v (vB (decide (b0.f1 = 2))) = C.v (vB false), C.v (vB (decide (b0.f1 = 5))) = C.v (vB false), CallOK Try.prog 151 [.ro (vI .i64 b0.f1), .ro (vI .i64 3), .ro (vI .i64 4)] [] (vB r72), C.v (vB r72) = C.v (vB false), (false : Bool) = false])
                (by kernel_rfl) ⟨vbB h36, vbB h46, vbB h58, F151.fn_c fuel b0.f1 3 4 _ h73, vbB h74, rfl, trivial⟩ rfl (fun _ _ h => h)
end F150
namespace F91
/-! spec.GoodFlow -/
noncomputable def K0 := (subC [1, 0, 1, 0] (bod Try.f91) []).2
noncomputable def L0 := (subC [1, 0, 1, 0, 0] (bod Try.f91) []).1
def I0 (f1 : List T115) (v2 : List T115) (v3 : Int) (v4 : Int) : TL := ⟨20, [C.dead], [(0, C.v (vS eT115 f1)), (5, C.v (vS eT115 v2)), (6, C.v (vI .i64 v3)), (7, C.v (vI .i64 v4))], [], []⟩
def J0_0 (f1 : List T115) (v2 : List T115) (v3 : Int) (o : Unit) : TL := ⟨20, [C.dead], [(2, C.v (vB false))], [], []⟩
def J0_1 (f1 : List T115) (v2 : List T115) (v3 : Int) (o : Unit) : TL := ⟨20, [C.dead], [(0, C.v (vS eT115 f1))], [], []⟩
def Q0 (f1 : List T115) (v2 : List T115) (v3 : Int) (r : Unit ⊕ Unit) (e : Exit) (st : St) : Prop := (Sum.elim (fun o => e = .ret ∧ Le st (J0_0 f1 v2 v3 o).sl.st) (fun o => e = (.exit 0) ∧ Le st (J0_1 f1 v2 v3 o).sl.st)) r
def p0 (fuel : Nat) (f1 : List T115) (v2 : List T115) (v3 : Int) : Nat → Int → Option (Unit ⊕ Unit)
  | 0, _ => none
  | n + 1, v4 =>
    cond (decide (v4 < v3))
    ((idx v4 v2.length).bind fun j6 =>
      (F150.fn fuel (v2.getD j6 (default : T115)) (f1.length : Int)).bind fun r8 =>
      cond (!r8)
      (some (.inl ()))
      (p0 fuel f1 v2 v3 n (w64 (v4 + 1))))
    (some (.inr ()))
theorem p0_c (fuel : Nat) (f1 : List T115) (v2 : List T115) (v3 : Int) (n : Nat) (v4 : Int) (r : Unit ⊕ Unit) (h : p0 fuel f1 v2 v3 n v4 = some r) : TW Try.prog (.loop L0) (I0 f1 v2 v3 v4).sl.st (Q0 f1 v2 v3 r) := by
  refine loop_run (σ := Int) (fun x => I0 f1 v2 v3 x) (fun n x => p0 fuel f1 v2 v3 n x) (Q0 f1 v2 v3) ?_ (fun _ => rfl) (x := v4) h
  clear h
  rintro n v4 r h
  replace h : p0 fuel f1 v2 v3 (n + 1) v4 = some r := h
  rw [p0] at h
  rcases cond_cases h with ⟨h5, h⟩ | ⟨h5, h⟩
  · 
    obtain ⟨j6, h7, h⟩ := bind_cases h
    obtain ⟨r8, h9, h⟩ := bind_cases h
    rcases cond_cases h with ⟨h10, h⟩ | ⟨h10, h⟩
    · 
      obtain rfl := Option.some.inj h
      exact runAt_S (Q := Round _ (n + 1) _) (n := 100000) (c := (.code L0)) (K := []) (s := (I0 f1 v2 v3 v4).sl) (e := .ret) (t := J0_0 f1 v2 v3 ()) (l := [])
        (hs := [hA, .g (.env 8 (C.v (vB true))), .h (.idv j6 (eT115.f (v2.getD j6 (default : T115)) ++ (cs eT115 (v2.drop (j6 + 1))))), hA, .h (.new 0), hA, hA, hA, .call ⟨[.ro, .ro], 9, [], true, [], (vB r8), [], 1⟩, hA, .g (.env 15 (C.v (vB true)))])
        (ps := [C.v (vB (decide (v4 < v3))) = C.v (vB true), v4 = (j6 : Int), j6 < v2.length, (cs eT115 v2).drop (j6 * 4) = (eT115.f (v2.getD j6 (default : T115)) ++ (cs eT115 (v2.drop (j6 + 1)))), cs eT115 v2 ≠ [], CallOK Try.prog 150 [.ro (.ag [(vS eT131 ((v2.getD j6 (default : T115)).f0)), (vI .i64 ((v2.getD j6 (default : T115)).f1)), (vI .i64 ((v2.getD j6 (default : T115)).f2)), (vS eJ ((v2.getD j6 (default : T115)).f3))]), .ro (vI .i64 (f1.length : Int))] [] (vB r8), C.v (vB (!r8)) = C.v (vB true), (false : Bool) = false])
        (by kernel_rfl) ⟨vbB h5, (idx_S h7).1, (idx_S h7).2, cs_from (e := eT115) (d := (default : T115)) (idx_S h7).2, cs_ne (e := eT115) (idx_S h7).2 (by decide), F150.fn_c fuel (v2.getD j6 (default : T115)) (f1.length : Int) _ h9, vbB h10, rfl, trivial⟩ (fun st hl => ⟨rfl, hl⟩)
    · 
      exact runAt_S (Q := Round _ (n + 1) _) (n := 100000) (c := (.code L0)) (K := []) (s := (I0 f1 v2 v3 v4).sl) (e := .normal) (t := I0 f1 v2 v3 (w64 (v4 + 1))) (l := [])
        (hs := [hA, .g (.env 8 (C.v (vB true))), .h (.idv j6 (eT115.f (v2.getD j6 (default : T115)) ++ (cs eT115 (v2.drop (j6 + 1))))), hA, .h (.new 0), hA, hA, hA, .call ⟨[.ro, .ro], 9, [], true, [], (vB r8), [], 1⟩, hA, .g (.env 15 (C.v (vB false))), hA])
        (ps := [C.v (vB (decide (v4 < v3))) = C.v (vB true), v4 = (j6 : Int), j6 < v2.length, (cs eT115 v2).drop (j6 * 4) = (eT115.f (v2.getD j6 (default : T115)) ++ (cs eT115 (v2.drop (j6 + 1)))), cs eT115 v2 ≠ [], CallOK Try.prog 150 [.ro (.ag [(vS eT131 ((v2.getD j6 (default : T115)).f0)), (vI .i64 ((v2.getD j6 (default : T115)).f1)), (vI .i64 ((v2.getD j6 (default : T115)).f2)), (vS eJ ((v2.getD j6 (default : T115)).f3))]), .ro (vI .i64 (f1.length : Int))] [] (vB r8), C.v (vB (!r8)) = C.v (vB false), ((vS eT115 f1) : V) = (vS eT115 f1), ((vS eT115 v2) : V) = (vS eT115 v2), (v3 : Int) = v3, (w64 (v4 + 1) : Int) = (w64 (v4 + 1))])
        (by kernel_rfl) ⟨vbB h5, (idx_S h7).1, (idx_S h7).2, cs_from (e := eT115) (d := (default : T115)) (idx_S h7).2, cs_ne (e := eT115) (idx_S h7).2 (by decide), F150.fn_c fuel (v2.getD j6 (default : T115)) (f1.length : Int) _ h9, vbB h10, rfl, rfl, rfl, rfl, trivial⟩ (fun st hl => ⟨n, _, Nat.lt_succ_self n, hl, w64 (v4 + 1), rfl, rfl, h⟩)
  · 
    obtain rfl := Option.some.inj h
    exact runAt_S (Q := Round _ (n + 1) _) (n := 100000) (c := (.code L0)) (K := []) (s := (I0 f1 v2 v3 v4).sl) (e := (.exit 0)) (t := J0_1 f1 v2 v3 ()) (l := [])
      (hs := [hA, .g (.env 8 (C.v (vB false)))])
      (ps := [C.v (vB (decide (v4 < v3))) = C.v (vB false), ((vS eT115 f1) : V) = (vS eT115 f1)])
      (by kernel_rfl) ⟨vbB h5, rfl, trivial⟩ (fun st hl => ⟨rfl, hl⟩)
def fn (fuel : Nat) (f0 : List T115) : Option Bool :=
  (p0 fuel f0 f0 (f0.length : Int) fuel (0 : Int)).bind fun r11 =>
  (Sum.elim (fun y13 => some false)
  (fun y14 => (F151.fn fuel (f0.length : Int) 1 64).bind fun r15 =>
    some r15)) r11
theorem ent : enterable Try.prog 91 = true := by kernel_rfl
theorem fn_c (fuel : Nat) (f0 : List T115) (r : Bool) (h : fn fuel f0 = some r) : CallOK Try.prog 91 [.ro (vS eT115 f0)] [] (vB r) := by
  refine contract_run Try.func91 (b := bod Try.f91) rfl ent ?_
  unfold fn at h
  obtain ⟨r11, h12, h⟩ := bind_cases h
  refine runTo_S (n := 100000) (c := (.code (bod Try.f91))) (K := []) (b := (.code (.loop L0))) (K1 := K0) (t := I0 f0 f0 (f0.length : Int) (0 : Int)) (l := [])
    (hs := [hA])
    (ps := [((vS eT115 f0) : V) = (vS eT115 f0), ((vS eT115 f0) : V) = (vS eT115 f0), ((f0.length : Int) : Int) = (f0.length : Int), (0 : Int) = (0 : Int)])
    (by kernel_rfl) ⟨rfl, rfl, rfl, rfl, trivial⟩ (cut_code ?_)
  refine TW.mono_le (p0_c fuel f0 f0 (f0.length : Int) fuel (0 : Int) _ h12) ?_
  rcases r11 with y13 | y14
  · 
    replace h := sum_l h
    rintro e st hq
    obtain ⟨rfl, hl⟩ := hq
    refine ⟨_, hl, ?_⟩
    obtain rfl := Option.some.inj h
    exact runRet_S (r := ⟨Try.f91.results.toList, _, _, _, [], 9⟩) (n := 100000) (c := (.out .ret)) (K := K0) (s := (J0_0 f0 f0 (f0.length : Int) y13).sl)
      (hs := [])
      (ps := [(false : Bool) = false])
      (by kernel_rfl) ⟨rfl, trivial⟩ rfl (fun _ _ h => h)
  · 
    replace h := sum_r h
    rintro e st hq
    obtain ⟨rfl, hl⟩ := hq
    refine ⟨_, hl, ?_⟩
    obtain ⟨r15, h16, h⟩ := bind_cases h
    obtain rfl := Option.some.inj h
    exact runRet_S (r := ⟨Try.f91.results.toList, _, _, _, [], 9⟩) (n := 100000) (c := (.out (.exit 0))) (K := K0) (s := (J0_1 f0 f0 (f0.length : Int) y14).sl)
      (hs := [hA, .call ⟨[.ro, .ro, .ro], 9, [], true, [], (vB r15), [], 0⟩])
      (ps := [CallOK Try.prog 151 [.ro (vI .i64 (f0.length : Int)), .ro (vI .i64 1), .ro (vI .i64 64)] [] (vB r15), (r15 : Bool) = r15])
      (by kernel_rfl) ⟨F151.fn_c fuel (f0.length : Int) 1 64 _ h16, rfl, trivial⟩ rfl (fun _ _ h => h)
end F91
namespace F92
/-! spec.l5Fuel -/
def fn (fuel : Nat) (n0 : Int) : Option Bool :=
  (F151.fn fuel n0 0 2000).bind fun r1 =>
  some r1
theorem ent : enterable Try.prog 92 = true := by kernel_rfl
theorem fn_c (fuel : Nat) (n0 : Int) (r : Bool) (h : fn fuel n0 = some r) : CallOK Try.prog 92 [.ro (vI .i64 n0)] [] (vB r) := by
  refine contract_run Try.func92 (b := bod Try.f92) rfl ent ?_
  unfold fn at h
  obtain ⟨r1, h2, h⟩ := bind_cases h
  obtain rfl := Option.some.inj h
  exact runRet_S (r := ⟨Try.f92.results.toList, _, _, _, [], 9⟩) (n := 100000) (c := (.code (bod Try.f92))) (K := [])
    (hs := [.call ⟨[.ro, .ro, .ro], 9, [], true, [], (vB r1), [], 0⟩])
    (ps := [CallOK Try.prog 151 [.ro (vI .i64 n0), .ro (vI .i64 0), .ro (vI .i64 2000)] [] (vB r1), (r1 : Bool) = r1])
    (by kernel_rfl) ⟨F151.fn_c fuel n0 0 2000 _ h2, rfl, trivial⟩ rfl (fun _ _ h => h)
end F92
namespace F94
/-! spec.l5Own -/
def fn (fuel : Nat) (s0 : T44) : Option T44 :=
  (chk ((0 + s0.f0.length) * 8 ≤ 140737488355328)).bind fun _ =>
  (chk ((0 + s0.f1.length) * 8 ≤ 140737488355328)).bind fun _ =>
  (chk ((0 + s0.f2.length) * 8 ≤ 140737488355328)).bind fun _ =>
  some (⟨([] : List Int) ++ s0.f0, ([] : List Int) ++ s0.f1, ([] : List Int) ++ s0.f2⟩ : T44)
theorem ent : enterable Try.prog 94 = true := by kernel_rfl
theorem fn_c (fuel : Nat) (s0 : T44) (r : T44) (h : fn fuel s0 = some r) : CallOK Try.prog 94 [.ro (.ag (eT44.f s0))] [] (.ag (eT44.f r)) := by
  refine contract_run Try.func94 (b := bod Try.f94) rfl ent ?_
  unfold fn at h
  obtain ⟨_, h1, h⟩ := bind_cases h
  obtain ⟨_, h2, h⟩ := bind_cases h
  obtain ⟨_, h3, h⟩ := bind_cases h
  obtain rfl := Option.some.inj h
  exact runRet_S (r := ⟨Try.f94.results.toList, _, _, _, [(3, (cs eJ (([] : List Int) ++ s0.f0)), (cs eJ (([] : List Int) ++ s0.f0))), (5, (cs eJ (([] : List Int) ++ s0.f1)), (cs eJ (([] : List Int) ++ s0.f1))), (7, (cs eJ (([] : List Int) ++ s0.f2)), (cs eJ (([] : List Int) ++ s0.f2)))], 9⟩) (n := 100000) (c := (.code (bod Try.f94))) (K := [])
    (hs := [.h (.new 0), .h (.new 1), .any [[2], [], [], [2, 3], [4], [], [], [4, 5], [6], [], [], [6, 7], [], [1]], .h (.new 2), hA, .h (.apd 3 ((cs eJ s0.f0).map C.v) (own (cs eJ (([] : List Int) ++ s0.f0)))), .h (.new 4), hA, .h (.apd 5 ((cs eJ s0.f1).map C.v) (own (cs eJ (([] : List Int) ++ s0.f1)))), .h (.new 6), hA, .h (.apd 7 ((cs eJ s0.f2).map C.v) (own (cs eJ (([] : List Int) ++ s0.f2)))), hA])
    (ps := [(cs eJ s0.f0).length = s0.f0.length * 1, (cs eJ s0.f0).map C.v = ((cs eJ s0.f0).map C.v), ((cs eJ s0.f0).map C.v).all oneC = true, 0 + 0 * 1 ≤ (own (cs eJ ([] : List Int))).length, (0 + s0.f0.length) * 8 ≤ 140737488355328, ((own (cs eJ ([] : List Int))).drop 0).take (0 * 1) ++ (((cs eJ s0.f0).map C.v).map toCell) = (own (cs eJ (([] : List Int) ++ s0.f0))), (cs eJ s0.f1).length = s0.f1.length * 1, (cs eJ s0.f1).map C.v = ((cs eJ s0.f1).map C.v), ((cs eJ s0.f1).map C.v).all oneC = true, 0 + 0 * 1 ≤ (own (cs eJ ([] : List Int))).length, (0 + s0.f1.length) * 8 ≤ 140737488355328, ((own (cs eJ ([] : List Int))).drop 0).take (0 * 1) ++ (((cs eJ s0.f1).map C.v).map toCell) = (own (cs eJ (([] : List Int) ++ s0.f1))), (cs eJ s0.f2).length = s0.f2.length * 1, (cs eJ s0.f2).map C.v = ((cs eJ s0.f2).map C.v), ((cs eJ s0.f2).map C.v).all oneC = true, 0 + 0 * 1 ≤ (own (cs eJ ([] : List Int))).length, (0 + s0.f2.length) * 8 ≤ 140737488355328, ((own (cs eJ ([] : List Int))).drop 0).take (0 * 1) ++ (((cs eJ s0.f2).map C.v).map toCell) = (own (cs eJ (([] : List Int) ++ s0.f2))), (own (cs eJ (([] : List Int) ++ s0.f0))) = (cs eJ (([] : List Int) ++ s0.f0)).map C.own, 0 + (0 + s0.f0.length) * 1 ≤ (cs eJ (([] : List Int) ++ s0.f0)).length, ((cs eJ (([] : List Int) ++ s0.f0)).drop (0)).take ((0 + s0.f0.length) * 1) = (cs eJ (([] : List Int) ++ s0.f0)), (own (cs eJ (([] : List Int) ++ s0.f1))) = (cs eJ (([] : List Int) ++ s0.f1)).map C.own, 0 + (0 + s0.f1.length) * 1 ≤ (cs eJ (([] : List Int) ++ s0.f1)).length, ((cs eJ (([] : List Int) ++ s0.f1)).drop (0)).take ((0 + s0.f1.length) * 1) = (cs eJ (([] : List Int) ++ s0.f1)), (own (cs eJ (([] : List Int) ++ s0.f2))) = (cs eJ (([] : List Int) ++ s0.f2)).map C.own, 0 + (0 + s0.f2.length) * 1 ≤ (cs eJ (([] : List Int) ++ s0.f2)).length, ((cs eJ (([] : List Int) ++ s0.f2)).drop (0)).take ((0 + s0.f2.length) * 1) = (cs eJ (([] : List Int) ++ s0.f2)), ((.ag [(.sl 1 (0 + s0.f0.length) (cs eJ (([] : List Int) ++ s0.f0))), (.sl 1 (0 + s0.f1.length) (cs eJ (([] : List Int) ++ s0.f1))), (.sl 1 (0 + s0.f2.length) (cs eJ (([] : List Int) ++ s0.f2)))]) : V) = (.ag (eT44.f (⟨([] : List Int) ++ s0.f0, ([] : List Int) ++ s0.f1, ([] : List Int) ++ s0.f2⟩ : T44)))])
    (by kernel_rfl) ⟨cs_length, rfl, all_one, own_len (e := eJ) (rfl), (chk_S h1), own_app (e := eJ) (rfl) toCell_cs, cs_length, rfl, all_one, own_len (e := eJ) (rfl), (chk_S h2), own_app (e := eJ) (rfl) toCell_cs, cs_length, rfl, all_one, own_len (e := eJ) (rfl), (chk_S h3), own_app (e := eJ) (rfl) toCell_cs, rfl, len_all (e := eJ) (app_ln (rfl) (rfl)), take_cs (e := eJ) (app_ln (rfl) (rfl)), rfl, len_all (e := eJ) (app_ln (rfl) (rfl)), take_cs (e := eJ) (app_ln (rfl) (rfl)), rfl, len_all (e := eJ) (app_ln (rfl) (rfl)), take_cs (e := eJ) (app_ln (rfl) (rfl)), (by rw [show 0 + s0.f0.length = (([] : List Int) ++ s0.f0).length from (app_ln (rfl) (rfl)), show 0 + s0.f1.length = (([] : List Int) ++ s0.f1).length from (app_ln (rfl) (rfl)), show 0 + s0.f2.length = (([] : List Int) ++ s0.f2).length from (app_ln (rfl) (rfl))]; try rfl), trivial⟩ rfl (fun _ _ h => h)
end F94
namespace F256
/-! spec.l5Bit -/
def fn (fuel : Nat) (b0 : Bool) : Option Int :=
  cond (b0)
  (some 1)
  (some 0)
theorem ent : enterable Try.prog 256 = true := by kernel_rfl
theorem fn_c (fuel : Nat) (b0 : Bool) (r : Int) (h : fn fuel b0 = some r) : CallOK Try.prog 256 [.ro (vB b0)] [] (vI .i64 r) := by
  refine contract_run Try.func256 (b := bod Try.f256) rfl ent ?_
  unfold fn at h
  rcases cond_cases h with ⟨h1, h⟩ | ⟨h1, h⟩
  · 
    obtain rfl := Option.some.inj h
    exact runRet_S (r := ⟨Try.f256.results.toList, _, _, _, [], 9⟩) (n := 100000) (c := (.code (bod Try.f256))) (K := [])
      (hs := [.skip, .skip, .g (.env 3 (C.v (vB true)))])
      (ps := [C.v (vB b0) = C.v (vB true), (1 : Int) = 1])
      (by kernel_rfl) ⟨vbB h1, rfl, trivial⟩ rfl (fun _ _ h => h)
  · 
    obtain rfl := Option.some.inj h
    exact runRet_S (r := ⟨Try.f256.results.toList, _, _, _, [], 9⟩) (n := 100000) (c := (.code (bod Try.f256))) (K := [])
      (hs := [.skip, .skip, .g (.env 3 (C.v (vB false)))])
      (ps := [C.v (vB b0) = C.v (vB false), (0 : Int) = 0])
      (by kernel_rfl) ⟨vbB h1, rfl, trivial⟩ rfl (fun _ _ h => h)
end F256
namespace F213
/-! spec.l5Do -/
def fn (fuel : Nat) (op0 : Int) (a1 : Int) (b2 : Int) : Option (Int × Bool) :=
  cond (decide (op0 = 4))
  (some (bitAnd .i64 (w64 (a1 + b2)) 65535, true))
  (cond (decide (op0 = 5))
    (some (bitAnd .i64 (w64 (a1 - b2)) 65535, true))
    (cond (decide (op0 = 6))
      (some (bitAnd .i64 (w64 (a1 * b2)) 65535, true))
      (cond (decide (op0 = 7))
        (cond (decide (b2 = 0))
          (some (0, false))
          ((chk (b2 ≠ 0)).bind fun _ =>
            some (w64 (Int.tdiv a1 b2), true)))
        (cond (decide (op0 = 8))
          ((F256.fn fuel (decide (a1 < b2))).bind fun r8 =>
            some (r8, true))
          ((F256.fn fuel (decide (a1 = b2))).bind fun r10 =>
            some (r10, true))))))
theorem ent : enterable Try.prog 213 = true := by kernel_rfl
theorem fn_c (fuel : Nat) (op0 : Int) (a1 : Int) (b2 : Int) (r : Int × Bool) (h : fn fuel op0 a1 b2 = some r) : CallOK Try.prog 213 [.ro (vI .i64 op0), .ro (vI .i64 a1), .ro (vI .i64 b2)] [] (.tp [(vI .i64 r.1), (vB r.2)]) := by
  refine contract_run Try.func213 (b := bod Try.f213) rfl ent ?_
  unfold fn at h
  rcases cond_cases h with ⟨h1, h⟩ | ⟨h1, h⟩
  · 
    obtain rfl := Option.some.inj h
    exact runRet_S (r := ⟨Try.f213.results.toList, _, _, _, [], 9⟩) (n := 100000) (c := (.code (bod Try.f213))) (K := [])
      (hs := [hA, .skip, .g (.env 9 (C.v (vB true))), hA, hA])
      (ps := [C.v (vB (decide (op0 = 4))) = C.v (vB true), (V.tp [(vI .i64 (bitAnd .i64 (w64 (a1 + b2)) 65535)), (vB true)]) = V.tp [(vI .i64 (bitAnd .i64 (w64 (a1 + b2)) 65535)), (vB true)]])
      (by kernel_rfl) ⟨vbB h1, rfl, trivial⟩ rfl (fun _ _ h => h)
  · 
    rcases cond_cases h with ⟨h2, h⟩ | ⟨h2, h⟩
    · 
      obtain rfl := Option.some.inj h
      exact runRet_S (r := ⟨Try.f213.results.toList, _, _, _, [], 9⟩) (n := 100000) (c := (.code (bod Try.f213))) (K := [])
        (hs := [hA, .skip, .g (.env 9 (C.v (vB false))), hA, .skip, .g (.env 15 (C.v (vB true))), hA, hA])
        (ps := [C.v (vB (decide (op0 = 4))) = C.v (vB false), C.v (vB (decide (op0 = 5))) = C.v (vB true), (V.tp [(vI .i64 (bitAnd .i64 (w64 (a1 - b2)) 65535)), (vB true)]) = V.tp [(vI .i64 (bitAnd .i64 (w64 (a1 - b2)) 65535)), (vB true)]])
        (by kernel_rfl) ⟨vbB h1, vbB h2, rfl, trivial⟩ rfl (fun _ _ h => h)
    · 
      rcases cond_cases h with ⟨h3, h⟩ | ⟨h3, h⟩
      · 
        obtain rfl := Option.some.inj h
        exact runRet_S (r := ⟨Try.f213.results.toList, _, _, _, [], 9⟩) (n := 100000) (c := (.code (bod Try.f213))) (K := [])
          (hs := [hA, .skip, .g (.env 9 (C.v (vB false))), hA, .skip, .g (.env 15 (C.v (vB false))), hA, .skip, .g (.env 21 (C.v (vB true))), hA, hA])
          (ps := [C.v (vB (decide (op0 = 4))) = C.v (vB false), C.v (vB (decide (op0 = 5))) = C.v (vB false), C.v (vB (decide (op0 = 6))) = C.v (vB true), (V.tp [(vI .i64 (bitAnd .i64 (w64 (a1 * b2)) 65535)), (vB true)]) = V.tp [(vI .i64 (bitAnd .i64 (w64 (a1 * b2)) 65535)), (vB true)]])
          (by kernel_rfl) ⟨vbB h1, vbB h2, vbB h3, rfl, trivial⟩ rfl (fun _ _ h => h)
      · 
        rcases cond_cases h with ⟨h4, h⟩ | ⟨h4, h⟩
        · 
          rcases cond_cases h with ⟨h5, h⟩ | ⟨h5, h⟩
          · 
            obtain rfl := Option.some.inj h
            exact runRet_S (r := ⟨Try.f213.results.toList, _, _, _, [], 9⟩) (n := 100000) (c := (.code (bod Try.f213))) (K := [])
              (hs := [hA, .skip, .g (.env 9 (C.v (vB false))), hA, .skip, .g (.env 15 (C.v (vB false))), hA, .skip, .g (.env 21 (C.v (vB false))), hA, .skip, .g (.env 27 (C.v (vB true))), hA, .g (.env 30 (C.v (vB true)))])
              (ps := [C.v (vB (decide (op0 = 4))) = C.v (vB false), C.v (vB (decide (op0 = 5))) = C.v (vB false), C.v (vB (decide (op0 = 6))) = C.v (vB false), C.v (vB (decide (op0 = 7))) = C.v (vB true), C.v (vB (decide (b2 = 0))) = C.v (vB true), (V.tp [(vI .i64 0), (vB false)]) = V.tp [(vI .i64 0), (vB false)]])
              (by kernel_rfl) ⟨vbB h1, vbB h2, vbB h3, vbB h4, vbB h5, rfl, trivial⟩ rfl (fun _ _ h => h)
          · 
            obtain ⟨_, h6, h⟩ := bind_cases h
            obtain rfl := Option.some.inj h
            exact runRet_S (r := ⟨Try.f213.results.toList, _, _, _, [], 9⟩) (n := 100000) (c := (.code (bod Try.f213))) (K := [])
              (hs := [hA, .skip, .g (.env 9 (C.v (vB false))), hA, .skip, .g (.env 15 (C.v (vB false))), hA, .skip, .g (.env 21 (C.v (vB false))), hA, .skip, .g (.env 27 (C.v (vB true))), hA, .g (.env 30 (C.v (vB false))), .h .dv])
              (ps := [C.v (vB (decide (op0 = 4))) = C.v (vB false), C.v (vB (decide (op0 = 5))) = C.v (vB false), C.v (vB (decide (op0 = 6))) = C.v (vB false), C.v (vB (decide (op0 = 7))) = C.v (vB true), C.v (vB (decide (b2 = 0))) = C.v (vB false), b2 ≠ 0, (V.tp [(vI .i64 (w64 (Int.tdiv a1 b2))), (vB true)]) = V.tp [(vI .i64 (w64 (Int.tdiv a1 b2))), (vB true)]])
              (by kernel_rfl) ⟨vbB h1, vbB h2, vbB h3, vbB h4, vbB h5, (chk_S h6), rfl, trivial⟩ rfl (fun _ _ h => h)
        · 
          rcases cond_cases h with ⟨h7, h⟩ | ⟨h7, h⟩
          · 
            obtain ⟨r8, h9, h⟩ := bind_cases h
            obtain rfl := Option.some.inj h
            exact runRet_S (r := ⟨Try.f213.results.toList, _, _, _, [], 9⟩) (n := 100000) (c := (.code (bod Try.f213))) (K := [])
              (hs := [hA, .skip, .g (.env 9 (C.v (vB false))), hA, .skip, .g (.env 15 (C.v (vB false))), hA, .skip, .g (.env 21 (C.v (vB false))), hA, .skip, .g (.env 27 (C.v (vB false))), hA, .skip, .g (.env 34 (C.v (vB true))), hA, .call ⟨[.ro], 9, [], true, [], (vI .i64 r8), [], 0⟩])
              (ps := [C.v (vB (decide (op0 = 4))) = C.v (vB false), C.v (vB (decide (op0 = 5))) = C.v (vB false), C.v (vB (decide (op0 = 6))) = C.v (vB false), C.v (vB (decide (op0 = 7))) = C.v (vB false), C.v (vB (decide (op0 = 8))) = C.v (vB true), CallOK Try.prog 256 [.ro (vB (decide (a1 < b2)))] [] (vI .i64 r8), (V.tp [(vI .i64 r8), (vB true)]) = V.tp [(vI .i64 r8), (vB true)]])
              (by kernel_rfl) ⟨vbB h1, vbB h2, vbB h3, vbB h4, vbB h7, F256.fn_c fuel (decide (a1 < b2)) _ h9, rfl, trivial⟩ rfl (fun _ _ h => h)
          · 
            obtain ⟨r10, h11, h⟩ := bind_cases h
            obtain rfl := Option.some.inj h
            exact runRet_S (r := ⟨Try.f213.results.toList, _, _, _, [], 9⟩) (n := 100000) (c := (.code (bod Try.f213))) (K := [])
              (hs := [hA, .skip, .g (.env 9 (C.v (vB false))), hA, .skip, .g (.env 15 (C.v (vB false))), hA, .skip, .g (.env 21 (C.v (vB false))), hA, .skip, .g (.env 27 (C.v (vB false))), hA, .skip, .g (.env 34 (C.v (vB false))), hA, .call ⟨[.ro], 9, [], true, [], (vI .i64 r10), [], 0⟩])
              (ps := [C.v (vB (decide (op0 = 4))) = C.v (vB false), C.v (vB (decide (op0 = 5))) = C.v (vB false), C.v (vB (decide (op0 = 6))) = C.v (vB false), C.v (vB (decide (op0 = 7))) = C.v (vB false), C.v (vB (decide (op0 = 8))) = C.v (vB false), CallOK Try.prog 256 [.ro (vB (decide (a1 = b2)))] [] (vI .i64 r10), (V.tp [(vI .i64 r10), (vB true)]) = V.tp [(vI .i64 r10), (vB true)]])
              (by kernel_rfl) ⟨vbB h1, vbB h2, vbB h3, vbB h4, vbB h7, F256.fn_c fuel (decide (a1 = b2)) _ h11, rfl, trivial⟩ rfl (fun _ _ h => h)
end F213
namespace F152
/-! spec.l6Do -/
def fn (fuel : Nat) (x0 : T131) (vars1 : List Int) (s2 : T44) : Option (Bool × (List Int) × T44) :=
  cond (decide (x0.f0 = 1))
  ((idx x0.f2 vars1.length).bind fun j2 =>
    some (true, vars1.set j2 x0.f5, s2))
  (cond (decide (x0.f0 = 2))
    ((idx x0.f3 vars1.length).bind fun j5 =>
      (idx x0.f2 vars1.length).bind fun j7 =>
      some (true, vars1.set j7 (vars1.getD j5 (0 : Int)), s2))
    (cond (decide (x0.f0 = 3))
      ((idx x0.f3 vars1.length).bind fun j10 =>
        (idx x0.f4 vars1.length).bind fun j12 =>
        (F213.fn fuel x0.f1 (vars1.getD j10 (0 : Int)) (vars1.getD j12 (0 : Int))).bind fun r14 =>
        cond (!r14.2)
        (some (false, vars1, s2))
        ((idx x0.f2 vars1.length).bind fun j17 =>
          some (true, vars1.set j17 r14.1, s2)))
      (cond (decide (x0.f0 = 4))
        ((idx x0.f3 vars1.length).bind fun j20 =>
          cond (decide ((vars1.getD j20 (0 : Int)) ≥ 16))
          (some (false, vars1, s2))
          ((idx (vars1.getD j20 (0 : Int)) s2.f1.length).bind fun j23 =>
            (idx x0.f2 vars1.length).bind fun j25 =>
            some (true, vars1.set j25 (s2.f1.getD j23 (0 : Int)), s2)))
        (cond (decide (x0.f0 = 5))
          ((idx x0.f3 vars1.length).bind fun j28 =>
            cond (decide ((vars1.getD j28 (0 : Int)) ≥ 16))
            (some (false, vars1, s2))
            ((idx x0.f4 vars1.length).bind fun j31 =>
              (idx (vars1.getD j28 (0 : Int)) s2.f1.length).bind fun j33 =>
              some (true, vars1, (⟨s2.f0, s2.f1.set j33 (vars1.getD j31 (0 : Int)), s2.f2⟩ : T44))))
          (cond (decide ((s2.f2.length : Int) = 100))
            (some (false, vars1, s2))
            ((idx x0.f3 vars1.length).bind fun j36 =>
              (chk ((s2.f2.length + 1) * 8 ≤ 140737488355328)).bind fun _ =>
              some (true, vars1, (⟨s2.f0, s2.f1, s2.f2 ++ ([(vars1.getD j36 (0 : Int))] : List Int)⟩ : T44))))))))
theorem ent : enterable Try.prog 152 = true := by kernel_rfl
theorem fn_c (fuel : Nat) (x0 : T131) (vars1 : List Int) (s2 : T44) (r : Bool × (List Int) × T44) (h : fn fuel x0 vars1 s2 = some r) : CallOK Try.prog 152 [.ro (.ag (eT131.f x0)), .io (vS eJ vars1), .io (.bx (eT44.f s2))] [(vS eJ r.2.1), (.bx (eT44.f r.2.2))] (vB r.1) := by
  refine contract_run Try.func152 (b := bod Try.f152) rfl ent ?_
  unfold fn at h
  rcases cond_cases h with ⟨h1, h⟩ | ⟨h1, h⟩
  · 
    obtain ⟨j2, h3, h⟩ := bind_cases h
    obtain rfl := Option.some.inj h
    exact runRet_S (r := ⟨Try.f152.results.toList, _, _, _, [(0, (cs eJ (vars1.set j2 x0.f5)), (cs eJ (vars1.set j2 x0.f5))), (2, (cs eJ s2.f0), (cs eJ s2.f0)), (3, (cs eJ s2.f1), (cs eJ s2.f1)), (4, (cs eJ s2.f2), (cs eJ s2.f2))], 9⟩) (n := 100000) (c := (.code (bod Try.f152))) (K := [])
      (hs := [.g (.opn 1 0 2), .g (.opn 1 1 3), .g (.opn 1 2 4), .h (.new 5), hA, hA, .skip, .g (.env 31 (C.v (vB true))), hA, hA, .h (.idx j2 false), .h (.cells (own (cs eJ (vars1.set j2 x0.f5))))])
      (ps := [C.v (vB (decide (x0.f0 = 1))) = C.v (vB true), x0.f2 = (j2 : Int), j2 < vars1.length, 0 + j2 * 1 + 1 ≤ (own (cs eJ vars1)).length, setRange (own (cs eJ vars1)) (0 + j2 * 1) [C.own (vI .i64 x0.f5)] = (own (cs eJ (vars1.set j2 x0.f5))), (own (cs eJ (vars1.set j2 x0.f5))) = (cs eJ (vars1.set j2 x0.f5)).map C.own, 0 + vars1.length * 1 ≤ (cs eJ (vars1.set j2 x0.f5)).length, ((cs eJ (vars1.set j2 x0.f5)).drop (0)).take (vars1.length * 1) = (cs eJ (vars1.set j2 x0.f5)), (own (cs eJ s2.f0)) = (cs eJ s2.f0).map C.own, 0 + s2.f0.length * 1 ≤ (cs eJ s2.f0).length, ((cs eJ s2.f0).drop (0)).take (s2.f0.length * 1) = (cs eJ s2.f0), (own (cs eJ s2.f1)) = (cs eJ s2.f1).map C.own, 0 + s2.f1.length * 1 ≤ (cs eJ s2.f1).length, ((cs eJ s2.f1).drop (0)).take (s2.f1.length * 1) = (cs eJ s2.f1), (own (cs eJ s2.f2)) = (cs eJ s2.f2).map C.own, 0 + s2.f2.length * 1 ≤ (cs eJ s2.f2).length, ((cs eJ s2.f2).drop (0)).take (s2.f2.length * 1) = (cs eJ s2.f2), ((.sl 1 vars1.length (cs eJ (vars1.set j2 x0.f5))) : V) = (vS eJ (vars1.set j2 x0.f5)), ((.bx [(.sl 1 s2.f0.length (cs eJ s2.f0)), (.sl 1 s2.f1.length (cs eJ s2.f1)), (.sl 1 s2.f2.length (cs eJ s2.f2))]) : V) = (.bx (eT44.f s2)), (true : Bool) = true])
      (by kernel_rfl) ⟨vbB h1, (idx_S h3).1, (idx_S h3).2, own_room (e := eJ) (idx_S h3).2, own_set (e := eJ) (idx_S h3).2 rfl, rfl, len_all (e := eJ) (set_ln), take_cs (e := eJ) (set_ln), rfl, len_all (e := eJ) (rfl), take_cs (e := eJ) (rfl), rfl, len_all (e := eJ) (rfl), take_cs (e := eJ) (rfl), rfl, len_all (e := eJ) (rfl), take_cs (e := eJ) (rfl), (by rw [show vars1.length = (vars1.set j2 x0.f5).length from (set_ln)]; try rfl), rfl, rfl, trivial⟩ rfl (fun _ _ h => h)
  · 
    rcases cond_cases h with ⟨h4, h⟩ | ⟨h4, h⟩
    · 
      obtain ⟨j5, h6, h⟩ := bind_cases h
      obtain ⟨j7, h8, h⟩ := bind_cases h
      obtain rfl := Option.some.inj h
      exact runRet_S (r := ⟨Try.f152.results.toList, _, _, _, [(0, (cs eJ (vars1.set j7 (vars1.getD j5 (0 : Int)))), (cs eJ (vars1.set j7 (vars1.getD j5 (0 : Int))))), (2, (cs eJ s2.f0), (cs eJ s2.f0)), (3, (cs eJ s2.f1), (cs eJ s2.f1)), (4, (cs eJ s2.f2), (cs eJ s2.f2))], 9⟩) (n := 100000) (c := (.code (bod Try.f152))) (K := [])
        (hs := [.g (.opn 1 0 2), .g (.opn 1 1 3), .g (.opn 1 2 4), .h (.new 5), hA, hA, .skip, .g (.env 31 (C.v (vB false))), hA, .skip, .g (.env 39 (C.v (vB true))), .any [[], [], [], [], [], [], [], [], [], [0]], hA, hA, .h (.idx j5 false), .h (.cell (C.v (vI .i64 (vars1.getD j5 (0 : Int))))), .h (.idx j7 false), .h (.cells (own (cs eJ (vars1.set j7 (vars1.getD j5 (0 : Int))))))])
        (ps := [C.v (vB (decide (x0.f0 = 1))) = C.v (vB false), C.v (vB (decide (x0.f0 = 2))) = C.v (vB true), x0.f3 = (j5 : Int), j5 < vars1.length, ((own (cs eJ vars1))[0 + j5 * 1]?).bind readC = some (C.v (vI .i64 (vars1.getD j5 (0 : Int)))), x0.f2 = (j7 : Int), j7 < vars1.length, 0 + j7 * 1 + 1 ≤ (own (cs eJ vars1)).length, setRange (own (cs eJ vars1)) (0 + j7 * 1) [C.own (vI .i64 (vars1.getD j5 (0 : Int)))] = (own (cs eJ (vars1.set j7 (vars1.getD j5 (0 : Int))))), (own (cs eJ (vars1.set j7 (vars1.getD j5 (0 : Int))))) = (cs eJ (vars1.set j7 (vars1.getD j5 (0 : Int)))).map C.own, 0 + vars1.length * 1 ≤ (cs eJ (vars1.set j7 (vars1.getD j5 (0 : Int)))).length, ((cs eJ (vars1.set j7 (vars1.getD j5 (0 : Int)))).drop (0)).take (vars1.length * 1) = (cs eJ (vars1.set j7 (vars1.getD j5 (0 : Int)))), (own (cs eJ s2.f0)) = (cs eJ s2.f0).map C.own, 0 + s2.f0.length * 1 ≤ (cs eJ s2.f0).length, ((cs eJ s2.f0).drop (0)).take (s2.f0.length * 1) = (cs eJ s2.f0), (own (cs eJ s2.f1)) = (cs eJ s2.f1).map C.own, 0 + s2.f1.length * 1 ≤ (cs eJ s2.f1).length, ((cs eJ s2.f1).drop (0)).take (s2.f1.length * 1) = (cs eJ s2.f1), (own (cs eJ s2.f2)) = (cs eJ s2.f2).map C.own, 0 + s2.f2.length * 1 ≤ (cs eJ s2.f2).length, ((cs eJ s2.f2).drop (0)).take (s2.f2.length * 1) = (cs eJ s2.f2), ((.sl 1 vars1.length (cs eJ (vars1.set j7 (vars1.getD j5 (0 : Int))))) : V) = (vS eJ (vars1.set j7 (vars1.getD j5 (0 : Int)))), ((.bx [(.sl 1 s2.f0.length (cs eJ s2.f0)), (.sl 1 s2.f1.length (cs eJ s2.f1)), (.sl 1 s2.f2.length (cs eJ s2.f2))]) : V) = (.bx (eT44.f s2)), (true : Bool) = true])
        (by kernel_rfl) ⟨vbB h1, vbB h4, (idx_S h6).1, (idx_S h6).2, readC_at (e := eJ) (k := 0) (d := (0 : Int)) (idx_S h6).2 (by decide) rfl, (idx_S h8).1, (idx_S h8).2, own_room (e := eJ) (idx_S h8).2, own_set (e := eJ) (idx_S h8).2 rfl, rfl, len_all (e := eJ) (set_ln), take_cs (e := eJ) (set_ln), rfl, len_all (e := eJ) (rfl), take_cs (e := eJ) (rfl), rfl, len_all (e := eJ) (rfl), take_cs (e := eJ) (rfl), rfl, len_all (e := eJ) (rfl), take_cs (e := eJ) (rfl), (by rw [show vars1.length = (vars1.set j7 (vars1.getD j5 (0 : Int))).length from (set_ln)]; try rfl), rfl, rfl, trivial⟩ rfl (fun _ _ h => h)
    · 
      rcases cond_cases h with ⟨h9, h⟩ | ⟨h9, h⟩
      · 
        obtain ⟨j10, h11, h⟩ := bind_cases h
        obtain ⟨j12, h13, h⟩ := bind_cases h
        obtain ⟨r14, h15, h⟩ := bind_cases h
        rcases cond_cases h with ⟨h16, h⟩ | ⟨h16, h⟩
        · 
          obtain rfl := Option.some.inj h
          exact runRet_S (r := ⟨Try.f152.results.toList, _, _, _, [(0, (cs eJ vars1), (cs eJ vars1)), (2, (cs eJ s2.f0), (cs eJ s2.f0)), (3, (cs eJ s2.f1), (cs eJ s2.f1)), (4, (cs eJ s2.f2), (cs eJ s2.f2))], 9⟩) (n := 100000) (c := (.code (bod Try.f152))) (K := [])
            (hs := [.g (.opn 1 0 2), .g (.opn 1 1 3), .g (.opn 1 2 4), .h (.new 5), hA, hA, .skip, .g (.env 31 (C.v (vB false))), hA, .skip, .g (.env 39 (C.v (vB false))), hA, .skip, .g (.env 50 (C.v (vB true))), .any [[], [], [], [], [], [], [], [], [], [], [], [], [], [], [], [], [], []], hA, hA, .h (.idx j10 false), .h (.cell (C.v (vI .i64 (vars1.getD j10 (0 : Int))))), hA, .h (.idx j12 false), .h (.cell (C.v (vI .i64 (vars1.getD j12 (0 : Int))))), .call ⟨[.ro, .ro, .ro], 9, [], true, [], (.tp [(vI .i64 r14.1), (vB r14.2)]), [], 6⟩, hA, .g (.env 69 (C.v (vB true)))])
            (ps := [C.v (vB (decide (x0.f0 = 1))) = C.v (vB false), C.v (vB (decide (x0.f0 = 2))) = C.v (vB false), C.v (vB (decide (x0.f0 = 3))) = C.v (vB true), x0.f3 = (j10 : Int), j10 < vars1.length, ((own (cs eJ vars1))[0 + j10 * 1]?).bind readC = some (C.v (vI .i64 (vars1.getD j10 (0 : Int)))), x0.f4 = (j12 : Int), j12 < vars1.length, ((own (cs eJ vars1))[0 + j12 * 1]?).bind readC = some (C.v (vI .i64 (vars1.getD j12 (0 : Int)))), CallOK Try.prog 213 [.ro (vI .i64 x0.f1), .ro (vI .i64 (vars1.getD j10 (0 : Int))), .ro (vI .i64 (vars1.getD j12 (0 : Int)))] [] (.tp [(vI .i64 r14.1), (vB r14.2)]), C.v (vB (!r14.2)) = C.v (vB true), (own (cs eJ vars1)) = (cs eJ vars1).map C.own, 0 + vars1.length * 1 ≤ (cs eJ vars1).length, ((cs eJ vars1).drop (0)).take (vars1.length * 1) = (cs eJ vars1), (own (cs eJ s2.f0)) = (cs eJ s2.f0).map C.own, 0 + s2.f0.length * 1 ≤ (cs eJ s2.f0).length, ((cs eJ s2.f0).drop (0)).take (s2.f0.length * 1) = (cs eJ s2.f0), (own (cs eJ s2.f1)) = (cs eJ s2.f1).map C.own, 0 + s2.f1.length * 1 ≤ (cs eJ s2.f1).length, ((cs eJ s2.f1).drop (0)).take (s2.f1.length * 1) = (cs eJ s2.f1), (own (cs eJ s2.f2)) = (cs eJ s2.f2).map C.own, 0 + s2.f2.length * 1 ≤ (cs eJ s2.f2).length, ((cs eJ s2.f2).drop (0)).take (s2.f2.length * 1) = (cs eJ s2.f2), ((.sl 1 vars1.length (cs eJ vars1)) : V) = (vS eJ vars1), ((.bx [(.sl 1 s2.f0.length (cs eJ s2.f0)), (.sl 1 s2.f1.length (cs eJ s2.f1)), (.sl 1 s2.f2.length (cs eJ s2.f2))]) : V) = (.bx (eT44.f s2)), (false : Bool) = false])
            (by kernel_rfl) ⟨vbB h1, vbB h4, vbB h9, (idx_S h11).1, (idx_S h11).2, readC_at (e := eJ) (k := 0) (d := (0 : Int)) (idx_S h11).2 (by decide) rfl, (idx_S h13).1, (idx_S h13).2, readC_at (e := eJ) (k := 0) (d := (0 : Int)) (idx_S h13).2 (by decide) rfl, F213.fn_c fuel x0.f1 (vars1.getD j10 (0 : Int)) (vars1.getD j12 (0 : Int)) _ h15, vbB h16, rfl, len_all (e := eJ) (rfl), take_cs (e := eJ) (rfl), rfl, len_all (e := eJ) (rfl), take_cs (e := eJ) (rfl), rfl, len_all (e := eJ) (rfl), take_cs (e := eJ) (rfl), rfl, len_all (e := eJ) (rfl), take_cs (e := eJ) (rfl), rfl, rfl, rfl, trivial⟩ rfl (fun _ _ h => h)
        · 
          obtain ⟨j17, h18, h⟩ := bind_cases h
          obtain rfl := Option.some.inj h
          exact runRet_S (r := ⟨Try.f152.results.toList, _, _, _, [(0, (cs eJ (vars1.set j17 r14.1)), (cs eJ (vars1.set j17 r14.1))), (2, (cs eJ s2.f0), (cs eJ s2.f0)), (3, (cs eJ s2.f1), (cs eJ s2.f1)), (4, (cs eJ s2.f2), (cs eJ s2.f2))], 9⟩) (n := 100000) (c := (.code (bod Try.f152))) (K := [])
            (hs := [.g (.opn 1 0 2), .g (.opn 1 1 3), .g (.opn 1 2 4), .h (.new 5), hA, hA, .skip, .g (.env 31 (C.v (vB false))), hA, .skip, .g (.env 39 (C.v (vB false))), hA, .skip, .g (.env 50 (C.v (vB true))), .any [[], [], [], [], [], [], [], [], [], [], [], [], [], [], [], [], [], []], hA, hA, .h (.idx j10 false), .h (.cell (C.v (vI .i64 (vars1.getD j10 (0 : Int))))), hA, .h (.idx j12 false), .h (.cell (C.v (vI .i64 (vars1.getD j12 (0 : Int))))), .call ⟨[.ro, .ro, .ro], 9, [], true, [], (.tp [(vI .i64 r14.1), (vB r14.2)]), [], 6⟩, hA, .g (.env 69 (C.v (vB false))), hA, .h (.idx j17 false), .h (.cells (own (cs eJ (vars1.set j17 r14.1))))])
            (ps := [C.v (vB (decide (x0.f0 = 1))) = C.v (vB false), C.v (vB (decide (x0.f0 = 2))) = C.v (vB false), C.v (vB (decide (x0.f0 = 3))) = C.v (vB true), x0.f3 = (j10 : Int), j10 < vars1.length, ((own (cs eJ vars1))[0 + j10 * 1]?).bind readC = some (C.v (vI .i64 (vars1.getD j10 (0 : Int)))), x0.f4 = (j12 : Int), j12 < vars1.length, ((own (cs eJ vars1))[0 + j12 * 1]?).bind readC = some (C.v (vI .i64 (vars1.getD j12 (0 : Int)))), CallOK Try.prog 213 [.ro (vI .i64 x0.f1), .ro (vI .i64 (vars1.getD j10 (0 : Int))), .ro (vI .i64 (vars1.getD j12 (0 : Int)))] [] (.tp [(vI .i64 r14.1), (vB r14.2)]), C.v (vB (!r14.2)) = C.v (vB false), x0.f2 = (j17 : Int), j17 < vars1.length, 0 + j17 * 1 + 1 ≤ (own (cs eJ vars1)).length, setRange (own (cs eJ vars1)) (0 + j17 * 1) [C.own (vI .i64 r14.1)] = (own (cs eJ (vars1.set j17 r14.1))), (own (cs eJ (vars1.set j17 r14.1))) = (cs eJ (vars1.set j17 r14.1)).map C.own, 0 + vars1.length * 1 ≤ (cs eJ (vars1.set j17 r14.1)).length, ((cs eJ (vars1.set j17 r14.1)).drop (0)).take (vars1.length * 1) = (cs eJ (vars1.set j17 r14.1)), (own (cs eJ s2.f0)) = (cs eJ s2.f0).map C.own, 0 + s2.f0.length * 1 ≤ (cs eJ s2.f0).length, ((cs eJ s2.f0).drop (0)).take (s2.f0.length * 1) = (cs eJ s2.f0), (own (cs eJ s2.f1)) = (cs eJ s2.f1).map C.own, 0 + s2.f1.length * 1 ≤ (cs eJ s2.f1).length, ((cs eJ s2.f1).drop (0)).take (s2.f1.length * 1) = (cs eJ s2.f1), (own (cs eJ s2.f2)) = (cs eJ s2.f2).map C.own, 0 + s2.f2.length * 1 ≤ (cs eJ s2.f2).length, ((cs eJ s2.f2).drop (0)).take (s2.f2.length * 1) = (cs eJ s2.f2), ((.sl 1 vars1.length (cs eJ (vars1.set j17 r14.1))) : V) = (vS eJ (vars1.set j17 r14.1)), ((.bx [(.sl 1 s2.f0.length (cs eJ s2.f0)), (.sl 1 s2.f1.length (cs eJ s2.f1)), (.sl 1 s2.f2.length (cs eJ s2.f2))]) : V) = (.bx (eT44.f s2)), (true : Bool) = true])
            (by kernel_rfl) ⟨vbB h1, vbB h4, vbB h9, (idx_S h11).1, (idx_S h11).2, readC_at (e := eJ) (k := 0) (d := (0 : Int)) (idx_S h11).2 (by decide) rfl, (idx_S h13).1, (idx_S h13).2, readC_at (e := eJ) (k := 0) (d := (0 : Int)) (idx_S h13).2 (by decide) rfl, F213.fn_c fuel x0.f1 (vars1.getD j10 (0 : Int)) (vars1.getD j12 (0 : Int)) _ h15, vbB h16, (idx_S h18).1, (idx_S h18).2, own_room (e := eJ) (idx_S h18).2, own_set (e := eJ) (idx_S h18).2 rfl, rfl, len_all (e := eJ) (set_ln), take_cs (e := eJ) (set_ln), rfl, len_all (e := eJ) (rfl), take_cs (e := eJ) (rfl), rfl, len_all (e := eJ) (rfl), take_cs (e := eJ) (rfl), rfl, len_all (e := eJ) (rfl), take_cs (e := eJ) (rfl), (by rw [show vars1.length = (vars1.set j17 r14.1).length from (set_ln)]; try rfl), rfl, rfl, trivial⟩ rfl (fun _ _ h => h)
      · 
        rcases cond_cases h with ⟨h19, h⟩ | ⟨h19, h⟩
        · 
          obtain ⟨j20, h21, h⟩ := bind_cases h
          rcases cond_cases h with ⟨h22, h⟩ | ⟨h22, h⟩
          · 
            obtain rfl := Option.some.inj h
            exact runRet_S (r := ⟨Try.f152.results.toList, _, _, _, [(0, (cs eJ vars1), (cs eJ vars1)), (2, (cs eJ s2.f0), (cs eJ s2.f0)), (3, (cs eJ s2.f1), (cs eJ s2.f1)), (4, (cs eJ s2.f2), (cs eJ s2.f2))], 9⟩) (n := 100000) (c := (.code (bod Try.f152))) (K := [])
              (hs := [.g (.opn 1 0 2), .g (.opn 1 1 3), .g (.opn 1 2 4), .h (.new 5), hA, hA, .skip, .g (.env 31 (C.v (vB false))), hA, .skip, .g (.env 39 (C.v (vB false))), hA, .skip, .g (.env 50 (C.v (vB false))), hA, .skip, .g (.env 75 (C.v (vB true))), hA, .h (.idx j20 false), .h (.cell (C.v (vI .i64 (vars1.getD j20 (0 : Int))))), hA, .g (.env 82 (C.v (vB true)))])
              (ps := [C.v (vB (decide (x0.f0 = 1))) = C.v (vB false), C.v (vB (decide (x0.f0 = 2))) = C.v (vB false), C.v (vB (decide (x0.f0 = 3))) = C.v (vB false), C.v (vB (decide (x0.f0 = 4))) = C.v (vB true), x0.f3 = (j20 : Int), j20 < vars1.length, ((own (cs eJ vars1))[0 + j20 * 1]?).bind readC = some (C.v (vI .i64 (vars1.getD j20 (0 : Int)))), C.v (vB (decide ((vars1.getD j20 (0 : Int)) ≥ 16))) = C.v (vB true), (own (cs eJ vars1)) = (cs eJ vars1).map C.own, 0 + vars1.length * 1 ≤ (cs eJ vars1).length, ((cs eJ vars1).drop (0)).take (vars1.length * 1) = (cs eJ vars1), (own (cs eJ s2.f0)) = (cs eJ s2.f0).map C.own, 0 + s2.f0.length * 1 ≤ (cs eJ s2.f0).length, ((cs eJ s2.f0).drop (0)).take (s2.f0.length * 1) = (cs eJ s2.f0), (own (cs eJ s2.f1)) = (cs eJ s2.f1).map C.own, 0 + s2.f1.length * 1 ≤ (cs eJ s2.f1).length, ((cs eJ s2.f1).drop (0)).take (s2.f1.length * 1) = (cs eJ s2.f1), (own (cs eJ s2.f2)) = (cs eJ s2.f2).map C.own, 0 + s2.f2.length * 1 ≤ (cs eJ s2.f2).length, ((cs eJ s2.f2).drop (0)).take (s2.f2.length * 1) = (cs eJ s2.f2), ((.sl 1 vars1.length (cs eJ vars1)) : V) = (vS eJ vars1), ((.bx [(.sl 1 s2.f0.length (cs eJ s2.f0)), (.sl 1 s2.f1.length (cs eJ s2.f1)), (.sl 1 s2.f2.length (cs eJ s2.f2))]) : V) = (.bx (eT44.f s2)), (false : Bool) = false])
              (by kernel_rfl) ⟨vbB h1, vbB h4, vbB h9, vbB h19, (idx_S h21).1, (idx_S h21).2, readC_at (e := eJ) (k := 0) (d := (0 : Int)) (idx_S h21).2 (by decide) rfl, vbB h22, rfl, len_all (e := eJ) (rfl), take_cs (e := eJ) (rfl), rfl, len_all (e := eJ) (rfl), take_cs (e := eJ) (rfl), rfl, len_all (e := eJ) (rfl), take_cs (e := eJ) (rfl), rfl, len_all (e := eJ) (rfl), take_cs (e := eJ) (rfl), rfl, rfl, rfl, trivial⟩ rfl (fun _ _ h => h)
          · 
            obtain ⟨j23, h24, h⟩ := bind_cases h
            obtain ⟨j25, h26, h⟩ := bind_cases h
            obtain rfl := Option.some.inj h
            exact runRet_S (r := ⟨Try.f152.results.toList, _, _, _, [(0, (cs eJ (vars1.set j25 (s2.f1.getD j23 (0 : Int)))), (cs eJ (vars1.set j25 (s2.f1.getD j23 (0 : Int))))), (2, (cs eJ s2.f0), (cs eJ s2.f0)), (3, (cs eJ s2.f1), (cs eJ s2.f1)), (4, (cs eJ s2.f2), (cs eJ s2.f2))], 9⟩) (n := 100000) (c := (.code (bod Try.f152))) (K := [])
              (hs := [.g (.opn 1 0 2), .g (.opn 1 1 3), .g (.opn 1 2 4), .h (.new 5), hA, hA, .skip, .g (.env 31 (C.v (vB false))), hA, .skip, .g (.env 39 (C.v (vB false))), hA, .skip, .g (.env 50 (C.v (vB false))), hA, .skip, .g (.env 75 (C.v (vB true))), hA, .h (.idx j20 false), .h (.cell (C.v (vI .i64 (vars1.getD j20 (0 : Int))))), hA, .g (.env 82 (C.v (vB false))), .any [[], [], [], [], [], [], [], [], [], [], [], [], [], [], [], [0]], hA, hA, hA, .h (.idx j20 false), .h (.cell (C.v (vI .i64 (vars1.getD j20 (0 : Int))))), .h (.idx j23 false), .h (.cell (C.v (vI .i64 (s2.f1.getD j23 (0 : Int))))), .h (.idx j25 false), .h (.cells (own (cs eJ (vars1.set j25 (s2.f1.getD j23 (0 : Int))))))])
              (ps := [C.v (vB (decide (x0.f0 = 1))) = C.v (vB false), C.v (vB (decide (x0.f0 = 2))) = C.v (vB false), C.v (vB (decide (x0.f0 = 3))) = C.v (vB false), C.v (vB (decide (x0.f0 = 4))) = C.v (vB true), x0.f3 = (j20 : Int), j20 < vars1.length, ((own (cs eJ vars1))[0 + j20 * 1]?).bind readC = some (C.v (vI .i64 (vars1.getD j20 (0 : Int)))), C.v (vB (decide ((vars1.getD j20 (0 : Int)) ≥ 16))) = C.v (vB false), x0.f3 = (j20 : Int), j20 < vars1.length, ((own (cs eJ vars1))[0 + j20 * 1]?).bind readC = some (C.v (vI .i64 (vars1.getD j20 (0 : Int)))), (vars1.getD j20 (0 : Int)) = (j23 : Int), j23 < s2.f1.length, ((own (cs eJ s2.f1))[0 + j23 * 1]?).bind readC = some (C.v (vI .i64 (s2.f1.getD j23 (0 : Int)))), x0.f2 = (j25 : Int), j25 < vars1.length, 0 + j25 * 1 + 1 ≤ (own (cs eJ vars1)).length, setRange (own (cs eJ vars1)) (0 + j25 * 1) [C.own (vI .i64 (s2.f1.getD j23 (0 : Int)))] = (own (cs eJ (vars1.set j25 (s2.f1.getD j23 (0 : Int))))), (own (cs eJ (vars1.set j25 (s2.f1.getD j23 (0 : Int))))) = (cs eJ (vars1.set j25 (s2.f1.getD j23 (0 : Int)))).map C.own, 0 + vars1.length * 1 ≤ (cs eJ (vars1.set j25 (s2.f1.getD j23 (0 : Int)))).length, ((cs eJ (vars1.set j25 (s2.f1.getD j23 (0 : Int)))).drop (0)).take (vars1.length * 1) = (cs eJ (vars1.set j25 (s2.f1.getD j23 (0 : Int)))), (own (cs eJ s2.f0)) = (cs eJ s2.f0).map C.own, 0 + s2.f0.length * 1 ≤ (cs eJ s2.f0).length, ((cs eJ s2.f0).drop (0)).take (s2.f0.length * 1) = (cs eJ s2.f0), (own (cs eJ s2.f1)) = (cs eJ s2.f1).map C.own, 0 + s2.f1.length * 1 ≤ (cs eJ s2.f1).length, ((cs eJ s2.f1).drop (0)).take (s2.f1.length * 1) = (cs eJ s2.f1), (own (cs eJ s2.f2)) = (cs eJ s2.f2).map C.own, 0 + s2.f2.length * 1 ≤ (cs eJ s2.f2).length, ((cs eJ s2.f2).drop (0)).take (s2.f2.length * 1) = (cs eJ s2.f2), ((.sl 1 vars1.length (cs eJ (vars1.set j25 (s2.f1.getD j23 (0 : Int))))) : V) = (vS eJ (vars1.set j25 (s2.f1.getD j23 (0 : Int)))), ((.bx [(.sl 1 s2.f0.length (cs eJ s2.f0)), (.sl 1 s2.f1.length (cs eJ s2.f1)), (.sl 1 s2.f2.length (cs eJ s2.f2))]) : V) = (.bx (eT44.f s2)), (true : Bool) = true])
              (by kernel_rfl) ⟨vbB h1, vbB h4, vbB h9, vbB h19, (idx_S h21).1, (idx_S h21).2, readC_at (e := eJ) (k := 0) (d := (0 : Int)) (idx_S h21).2 (by decide) rfl, vbB h22, (idx_S h21).1, (idx_S h21).2, readC_at (e := eJ) (k := 0) (d := (0 : Int)) (idx_S h21).2 (by decide) rfl, (idx_S h24).1, (idx_S h24).2, readC_at (e := eJ) (k := 0) (d := (0 : Int)) (idx_S h24).2 (by decide) rfl, (idx_S h26).1, (idx_S h26).2, own_room (e := eJ) (idx_S h26).2, own_set (e := eJ) (idx_S h26).2 rfl, rfl, len_all (e := eJ) (set_ln), take_cs (e := eJ) (set_ln), rfl, len_all (e := eJ) (rfl), take_cs (e := eJ) (rfl), rfl, len_all (e := eJ) (rfl), take_cs (e := eJ) (rfl), rfl, len_all (e := eJ) (rfl), take_cs (e := eJ) (rfl), (by rw [show vars1.length = (vars1.set j25 (s2.f1.getD j23 (0 : Int))).length from (set_ln)]; try rfl), rfl, rfl, trivial⟩ rfl (fun _ _ h => h)
        · 
          rcases cond_cases h with ⟨h27, h⟩ | ⟨h27, h⟩
          · 
            obtain ⟨j28, h29, h⟩ := bind_cases h
            rcases cond_cases h with ⟨h30, h⟩ | ⟨h30, h⟩
            · 
              obtain rfl := Option.some.inj h
              exact runRet_S (r := ⟨Try.f152.results.toList, _, _, _, [(0, (cs eJ vars1), (cs eJ vars1)), (2, (cs eJ s2.f0), (cs eJ s2.f0)), (3, (cs eJ s2.f1), (cs eJ s2.f1)), (4, (cs eJ s2.f2), (cs eJ s2.f2))], 9⟩) (n := 100000) (c := (.code (bod Try.f152))) (K := [])
                (hs := [.g (.opn 1 0 2), .g (.opn 1 1 3), .g (.opn 1 2 4), .h (.new 5), hA, hA, .skip, .g (.env 31 (C.v (vB false))), hA, .skip, .g (.env 39 (C.v (vB false))), hA, .skip, .g (.env 50 (C.v (vB false))), hA, .skip, .g (.env 75 (C.v (vB false))), hA, .skip, .g (.env 98 (C.v (vB true))), hA, .h (.idx j28 false), .h (.cell (C.v (vI .i64 (vars1.getD j28 (0 : Int))))), hA, .g (.env 105 (C.v (vB true)))])
                (ps := [C.v (vB (decide (x0.f0 = 1))) = C.v (vB false), C.v (vB (decide (x0.f0 = 2))) = C.v (vB false), C.v (vB (decide (x0.f0 = 3))) = C.v (vB false), C.v (vB (decide (x0.f0 = 4))) = C.v (vB false), C.v (vB (decide (x0.f0 = 5))) = C.v (vB true), x0.f3 = (j28 : Int), j28 < vars1.length, ((own (cs eJ vars1))[0 + j28 * 1]?).bind readC = some (C.v (vI .i64 (vars1.getD j28 (0 : Int)))), C.v (vB (decide ((vars1.getD j28 (0 : Int)) ≥ 16))) = C.v (vB true), (own (cs eJ vars1)) = (cs eJ vars1).map C.own, 0 + vars1.length * 1 ≤ (cs eJ vars1).length, ((cs eJ vars1).drop (0)).take (vars1.length * 1) = (cs eJ vars1), (own (cs eJ s2.f0)) = (cs eJ s2.f0).map C.own, 0 + s2.f0.length * 1 ≤ (cs eJ s2.f0).length, ((cs eJ s2.f0).drop (0)).take (s2.f0.length * 1) = (cs eJ s2.f0), (own (cs eJ s2.f1)) = (cs eJ s2.f1).map C.own, 0 + s2.f1.length * 1 ≤ (cs eJ s2.f1).length, ((cs eJ s2.f1).drop (0)).take (s2.f1.length * 1) = (cs eJ s2.f1), (own (cs eJ s2.f2)) = (cs eJ s2.f2).map C.own, 0 + s2.f2.length * 1 ≤ (cs eJ s2.f2).length, ((cs eJ s2.f2).drop (0)).take (s2.f2.length * 1) = (cs eJ s2.f2), ((.sl 1 vars1.length (cs eJ vars1)) : V) = (vS eJ vars1), ((.bx [(.sl 1 s2.f0.length (cs eJ s2.f0)), (.sl 1 s2.f1.length (cs eJ s2.f1)), (.sl 1 s2.f2.length (cs eJ s2.f2))]) : V) = (.bx (eT44.f s2)), (false : Bool) = false])
                (by kernel_rfl) ⟨vbB h1, vbB h4, vbB h9, vbB h19, vbB h27, (idx_S h29).1, (idx_S h29).2, readC_at (e := eJ) (k := 0) (d := (0 : Int)) (idx_S h29).2 (by decide) rfl, vbB h30, rfl, len_all (e := eJ) (rfl), take_cs (e := eJ) (rfl), rfl, len_all (e := eJ) (rfl), take_cs (e := eJ) (rfl), rfl, len_all (e := eJ) (rfl), take_cs (e := eJ) (rfl), rfl, len_all (e := eJ) (rfl), take_cs (e := eJ) (rfl), rfl, rfl, rfl, trivial⟩ rfl (fun _ _ h => h)
            · 
              obtain ⟨j31, h32, h⟩ := bind_cases h
              obtain ⟨j33, h34, h⟩ := bind_cases h
              obtain rfl := Option.some.inj h
              exact runRet_S (r := ⟨Try.f152.results.toList, _, _, _, [(0, (cs eJ vars1), (cs eJ vars1)), (2, (cs eJ s2.f0), (cs eJ s2.f0)), (3, (cs eJ (s2.f1.set j33 (vars1.getD j31 (0 : Int)))), (cs eJ (s2.f1.set j33 (vars1.getD j31 (0 : Int))))), (4, (cs eJ s2.f2), (cs eJ s2.f2))], 9⟩) (n := 100000) (c := (.code (bod Try.f152))) (K := [])
                (hs := [.g (.opn 1 0 2), .g (.opn 1 1 3), .g (.opn 1 2 4), .h (.new 5), hA, hA, .skip, .g (.env 31 (C.v (vB false))), hA, .skip, .g (.env 39 (C.v (vB false))), hA, .skip, .g (.env 50 (C.v (vB false))), hA, .skip, .g (.env 75 (C.v (vB false))), hA, .skip, .g (.env 98 (C.v (vB true))), hA, .h (.idx j28 false), .h (.cell (C.v (vI .i64 (vars1.getD j28 (0 : Int))))), hA, .g (.env 105 (C.v (vB false))), .any [[], [], [], [], [], [], [], [], [], [], [], [], [], [], [], [3]], hA, hA, .h (.idx j28 false), .h (.cell (C.v (vI .i64 (vars1.getD j28 (0 : Int))))), hA, .h (.idx j31 false), .h (.cell (C.v (vI .i64 (vars1.getD j31 (0 : Int))))), .h (.idx j33 false), .h (.cells (own (cs eJ (s2.f1.set j33 (vars1.getD j31 (0 : Int))))))])
                (ps := [C.v (vB (decide (x0.f0 = 1))) = C.v (vB false), C.v (vB (decide (x0.f0 = 2))) = C.v (vB false), C.v (vB (decide (x0.f0 = 3))) = C.v (vB false), C.v (vB (decide (x0.f0 = 4))) = C.v (vB false), C.v (vB (decide (x0.f0 = 5))) = C.v (vB true), x0.f3 = (j28 : Int), j28 < vars1.length, ((own (cs eJ vars1))[0 + j28 * 1]?).bind readC = some (C.v (vI .i64 (vars1.getD j28 (0 : Int)))), C.v (vB (decide ((vars1.getD j28 (0 : Int)) ≥ 16))) = C.v (vB false), x0.f3 = (j28 : Int), j28 < vars1.length, ((own (cs eJ vars1))[0 + j28 * 1]?).bind readC = some (C.v (vI .i64 (vars1.getD j28 (0 : Int)))), x0.f4 = (j31 : Int), j31 < vars1.length, ((own (cs eJ vars1))[0 + j31 * 1]?).bind readC = some (C.v (vI .i64 (vars1.getD j31 (0 : Int)))), (vars1.getD j28 (0 : Int)) = (j33 : Int), j33 < s2.f1.length, 0 + j33 * 1 + 1 ≤ (own (cs eJ s2.f1)).length, setRange (own (cs eJ s2.f1)) (0 + j33 * 1) [C.own (vI .i64 (vars1.getD j31 (0 : Int)))] = (own (cs eJ (s2.f1.set j33 (vars1.getD j31 (0 : Int))))), (own (cs eJ vars1)) = (cs eJ vars1).map C.own, 0 + vars1.length * 1 ≤ (cs eJ vars1).length, ((cs eJ vars1).drop (0)).take (vars1.length * 1) = (cs eJ vars1), (own (cs eJ s2.f0)) = (cs eJ s2.f0).map C.own, 0 + s2.f0.length * 1 ≤ (cs eJ s2.f0).length, ((cs eJ s2.f0).drop (0)).take (s2.f0.length * 1) = (cs eJ s2.f0), (own (cs eJ (s2.f1.set j33 (vars1.getD j31 (0 : Int))))) = (cs eJ (s2.f1.set j33 (vars1.getD j31 (0 : Int)))).map C.own, 0 + s2.f1.length * 1 ≤ (cs eJ (s2.f1.set j33 (vars1.getD j31 (0 : Int)))).length, ((cs eJ (s2.f1.set j33 (vars1.getD j31 (0 : Int)))).drop (0)).take (s2.f1.length * 1) = (cs eJ (s2.f1.set j33 (vars1.getD j31 (0 : Int)))), (own (cs eJ s2.f2)) = (cs eJ s2.f2).map C.own, 0 + s2.f2.length * 1 ≤ (cs eJ s2.f2).length, ((cs eJ s2.f2).drop (0)).take (s2.f2.length * 1) = (cs eJ s2.f2), ((.sl 1 vars1.length (cs eJ vars1)) : V) = (vS eJ vars1), ((.bx [(.sl 1 s2.f0.length (cs eJ s2.f0)), (.sl 1 s2.f1.length (cs eJ (s2.f1.set j33 (vars1.getD j31 (0 : Int))))), (.sl 1 s2.f2.length (cs eJ s2.f2))]) : V) = (.bx (eT44.f (⟨s2.f0, s2.f1.set j33 (vars1.getD j31 (0 : Int)), s2.f2⟩ : T44))), (true : Bool) = true])
                (by kernel_rfl) ⟨vbB h1, vbB h4, vbB h9, vbB h19, vbB h27, (idx_S h29).1, (idx_S h29).2, readC_at (e := eJ) (k := 0) (d := (0 : Int)) (idx_S h29).2 (by decide) rfl, vbB h30, (idx_S h29).1, (idx_S h29).2, readC_at (e := eJ) (k := 0) (d := (0 : Int)) (idx_S h29).2 (by decide) rfl, (idx_S h32).1, (idx_S h32).2, readC_at (e := eJ) (k := 0) (d := (0 : Int)) (idx_S h32).2 (by decide) rfl, (idx_S h34).1, (idx_S h34).2, own_room (e := eJ) (idx_S h34).2, own_set (e := eJ) (idx_S h34).2 rfl, rfl, len_all (e := eJ) (rfl), take_cs (e := eJ) (rfl), rfl, len_all (e := eJ) (rfl), take_cs (e := eJ) (rfl), rfl, len_all (e := eJ) (set_ln), take_cs (e := eJ) (set_ln), rfl, len_all (e := eJ) (rfl), take_cs (e := eJ) (rfl), rfl, (by rw [show s2.f1.length = (s2.f1.set j33 (vars1.getD j31 (0 : Int))).length from (set_ln)]; try rfl), rfl, trivial⟩ rfl (fun _ _ h => h)
          · 
            rcases cond_cases h with ⟨h35, h⟩ | ⟨h35, h⟩
            · 
              obtain rfl := Option.some.inj h
              exact runRet_S (r := ⟨Try.f152.results.toList, _, _, _, [(0, (cs eJ vars1), (cs eJ vars1)), (2, (cs eJ s2.f0), (cs eJ s2.f0)), (3, (cs eJ s2.f1), (cs eJ s2.f1)), (4, (cs eJ s2.f2), (cs eJ s2.f2))], 9⟩) (n := 100000) (c := (.code (bod Try.f152))) (K := [])
                (hs := [.g (.opn 1 0 2), .g (.opn 1 1 3), .g (.opn 1 2 4), .h (.new 5), hA, hA, .skip, .g (.env 31 (C.v (vB false))), hA, .skip, .g (.env 39 (C.v (vB false))), hA, .skip, .g (.env 50 (C.v (vB false))), hA, .skip, .g (.env 75 (C.v (vB false))), hA, .skip, .g (.env 98 (C.v (vB false))), hA, hA, hA, .g (.env 16 (C.v (vB true)))])
                (ps := [C.v (vB (decide (x0.f0 = 1))) = C.v (vB false), C.v (vB (decide (x0.f0 = 2))) = C.v (vB false), C.v (vB (decide (x0.f0 = 3))) = C.v (vB false), C.v (vB (decide (x0.f0 = 4))) = C.v (vB false), C.v (vB (decide (x0.f0 = 5))) = C.v (vB false), C.v (vB (decide ((s2.f2.length : Int) = 100))) = C.v (vB true), (own (cs eJ vars1)) = (cs eJ vars1).map C.own, 0 + vars1.length * 1 ≤ (cs eJ vars1).length, ((cs eJ vars1).drop (0)).take (vars1.length * 1) = (cs eJ vars1), (own (cs eJ s2.f0)) = (cs eJ s2.f0).map C.own, 0 + s2.f0.length * 1 ≤ (cs eJ s2.f0).length, ((cs eJ s2.f0).drop (0)).take (s2.f0.length * 1) = (cs eJ s2.f0), (own (cs eJ s2.f1)) = (cs eJ s2.f1).map C.own, 0 + s2.f1.length * 1 ≤ (cs eJ s2.f1).length, ((cs eJ s2.f1).drop (0)).take (s2.f1.length * 1) = (cs eJ s2.f1), (own (cs eJ s2.f2)) = (cs eJ s2.f2).map C.own, 0 + s2.f2.length * 1 ≤ (cs eJ s2.f2).length, ((cs eJ s2.f2).drop (0)).take (s2.f2.length * 1) = (cs eJ s2.f2), ((.sl 1 vars1.length (cs eJ vars1)) : V) = (vS eJ vars1), ((.bx [(.sl 1 s2.f0.length (cs eJ s2.f0)), (.sl 1 s2.f1.length (cs eJ s2.f1)), (.sl 1 s2.f2.length (cs eJ s2.f2))]) : V) = (.bx (eT44.f s2)), (false : Bool) = false])
                (by kernel_rfl) ⟨vbB h1, vbB h4, vbB h9, vbB h19, vbB h27, vbB h35, rfl, len_all (e := eJ) (rfl), take_cs (e := eJ) (rfl), rfl, len_all (e := eJ) (rfl), take_cs (e := eJ) (rfl), rfl, len_all (e := eJ) (rfl), take_cs (e := eJ) (rfl), rfl, len_all (e := eJ) (rfl), take_cs (e := eJ) (rfl), rfl, rfl, rfl, trivial⟩ rfl (fun _ _ h => h)
            · 
              obtain ⟨j36, h37, h⟩ := bind_cases h
              obtain ⟨_, h38, h⟩ := bind_cases h
              obtain rfl := Option.some.inj h
              exact runRet_S (r := ⟨Try.f152.results.toList, _, _, _, [(0, (cs eJ vars1), (cs eJ vars1)), (2, (cs eJ s2.f0), (cs eJ s2.f0)), (3, (cs eJ s2.f1), (cs eJ s2.f1)), (7, (cs eJ (s2.f2 ++ ([(vars1.getD j36 (0 : Int))] : List Int))), (cs eJ (s2.f2 ++ ([(vars1.getD j36 (0 : Int))] : List Int))))], 9⟩) (n := 100000) (c := (.code (bod Try.f152))) (K := [])
                (hs := [.g (.opn 1 0 2), .g (.opn 1 1 3), .g (.opn 1 2 4), .h (.new 5), hA, hA, .skip, .g (.env 31 (C.v (vB false))), hA, .skip, .g (.env 39 (C.v (vB false))), hA, .skip, .g (.env 50 (C.v (vB false))), hA, .skip, .g (.env 75 (C.v (vB false))), hA, .skip, .g (.env 98 (C.v (vB false))), hA, hA, hA, .g (.env 16 (C.v (vB false))), .any [[], [], [], [], [], [], [], [], [], [], [6], [4, 7], [], [], [1]], hA, hA, .h (.idx j36 false), .h (.cell (C.v (vI .i64 (vars1.getD j36 (0 : Int))))), .h (.new 6), .h (.app 7 (own (cs eJ (s2.f2 ++ ([(vars1.getD j36 (0 : Int))] : List Int))))), hA])
                (ps := [C.v (vB (decide (x0.f0 = 1))) = C.v (vB false), C.v (vB (decide (x0.f0 = 2))) = C.v (vB false), C.v (vB (decide (x0.f0 = 3))) = C.v (vB false), C.v (vB (decide (x0.f0 = 4))) = C.v (vB false), C.v (vB (decide (x0.f0 = 5))) = C.v (vB false), C.v (vB (decide ((s2.f2.length : Int) = 100))) = C.v (vB false), x0.f3 = (j36 : Int), j36 < vars1.length, ((own (cs eJ vars1))[0 + j36 * 1]?).bind readC = some (C.v (vI .i64 (vars1.getD j36 (0 : Int)))), 0 + s2.f2.length * 1 ≤ (own (cs eJ s2.f2)).length, (s2.f2.length + 1) * 8 ≤ 140737488355328, ((own (cs eJ s2.f2)).drop 0).take (s2.f2.length * 1) ++ [C.own (vI .i64 (vars1.getD j36 (0 : Int)))] = (own (cs eJ (s2.f2 ++ ([(vars1.getD j36 (0 : Int))] : List Int)))), (own (cs eJ vars1)) = (cs eJ vars1).map C.own, 0 + vars1.length * 1 ≤ (cs eJ vars1).length, ((cs eJ vars1).drop (0)).take (vars1.length * 1) = (cs eJ vars1), (own (cs eJ s2.f0)) = (cs eJ s2.f0).map C.own, 0 + s2.f0.length * 1 ≤ (cs eJ s2.f0).length, ((cs eJ s2.f0).drop (0)).take (s2.f0.length * 1) = (cs eJ s2.f0), (own (cs eJ s2.f1)) = (cs eJ s2.f1).map C.own, 0 + s2.f1.length * 1 ≤ (cs eJ s2.f1).length, ((cs eJ s2.f1).drop (0)).take (s2.f1.length * 1) = (cs eJ s2.f1), (own (cs eJ (s2.f2 ++ ([(vars1.getD j36 (0 : Int))] : List Int)))) = (cs eJ (s2.f2 ++ ([(vars1.getD j36 (0 : Int))] : List Int))).map C.own, 0 + (s2.f2.length + 1) * 1 ≤ (cs eJ (s2.f2 ++ ([(vars1.getD j36 (0 : Int))] : List Int))).length, ((cs eJ (s2.f2 ++ ([(vars1.getD j36 (0 : Int))] : List Int))).drop (0)).take ((s2.f2.length + 1) * 1) = (cs eJ (s2.f2 ++ ([(vars1.getD j36 (0 : Int))] : List Int))), ((.sl 1 vars1.length (cs eJ vars1)) : V) = (vS eJ vars1), ((.bx [(.sl 1 s2.f0.length (cs eJ s2.f0)), (.sl 1 s2.f1.length (cs eJ s2.f1)), (.sl 1 (s2.f2.length + 1) (cs eJ (s2.f2 ++ ([(vars1.getD j36 (0 : Int))] : List Int))))]) : V) = (.bx (eT44.f (⟨s2.f0, s2.f1, s2.f2 ++ ([(vars1.getD j36 (0 : Int))] : List Int)⟩ : T44))), (true : Bool) = true])
                (by kernel_rfl) ⟨vbB h1, vbB h4, vbB h9, vbB h19, vbB h27, vbB h35, (idx_S h37).1, (idx_S h37).2, readC_at (e := eJ) (k := 0) (d := (0 : Int)) (idx_S h37).2 (by decide) rfl, own_len (e := eJ) (rfl), (chk_S h38), own_app (e := eJ) (rfl) rfl, rfl, len_all (e := eJ) (rfl), take_cs (e := eJ) (rfl), rfl, len_all (e := eJ) (rfl), take_cs (e := eJ) (rfl), rfl, len_all (e := eJ) (rfl), take_cs (e := eJ) (rfl), rfl, len_all (e := eJ) (app_ln (rfl) (rfl)), take_cs (e := eJ) (app_ln (rfl) (rfl)), rfl, (by rw [show s2.f2.length + 1 = (s2.f2 ++ ([(vars1.getD j36 (0 : Int))] : List Int)).length from (app_ln (rfl) (rfl))]; try rfl), rfl, trivial⟩ rfl (fun _ _ h => h)
end F152
namespace F153
/-! spec.l6Next -/
def fn (fuel : Nat) (b0 : T115) (vars1 : List Int) : Option Int :=
  cond (decide (b0.f1 = 1))
  ((idx 0 b0.f3.length).bind fun j2 =>
    some (b0.f3.getD j2 (0 : Int)))
  (cond (decide (b0.f1 = 2))
    ((idx b0.f2 vars1.length).bind fun j5 =>
      cond (!decide ((vars1.getD j5 (0 : Int)) = 0))
      ((idx 0 b0.f3.length).bind fun j8 =>
        some (b0.f3.getD j8 (0 : Int)))
      ((idx 1 b0.f3.length).bind fun j10 =>
        some (b0.f3.getD j10 (0 : Int))))
    (cond (decide (b0.f1 = 5))
      ((idx b0.f2 vars1.length).bind fun j13 =>
        cond (decide ((vars1.getD j13 (0 : Int)) ≥ (b0.f3.length : Int)))
        ((idx (w64 ((b0.f3.length : Int) - 1)) b0.f3.length).bind fun j16 =>
          some (b0.f3.getD j16 (0 : Int)))
        ((idx (vars1.getD j13 (0 : Int)) b0.f3.length).bind fun j18 =>
          some (b0.f3.getD j18 (0 : Int))))
      (cond (decide (b0.f1 = 3))
        (some (-1))
        (some (-2)))))
theorem ent : enterable Try.prog 153 = true := by kernel_rfl
theorem fn_c (fuel : Nat) (b0 : T115) (vars1 : List Int) (r : Int) (h : fn fuel b0 vars1 = some r) : CallOK Try.prog 153 [.ro (.ag (eT115.f b0)), .ro (vS eJ vars1)] [] (vI .i64 r) := by
  refine contract_run Try.func153 (b := bod Try.f153) rfl ent ?_
  unfold fn at h
  rcases cond_cases h with ⟨h1, h⟩ | ⟨h1, h⟩
  · 
    obtain ⟨j2, h3, h⟩ := bind_cases h
    obtain rfl := Option.some.inj h
    exact runRet_S (r := ⟨Try.f153.results.toList, _, _, _, [], 9⟩) (n := 100000) (c := (.code (bod Try.f153))) (K := [])
      (hs := [.h (.new 0), hA, hA, .skip, .g (.env 8 (C.v (vB true))), hA, .h (.idv j2 (eJ.f (b0.f3.getD j2 (0 : Int)) ++ (cs eJ (b0.f3.drop (j2 + 1))))), hA])
      (ps := [C.v (vB (decide (b0.f1 = 1))) = C.v (vB true), 0 = (j2 : Int), j2 < b0.f3.length, (cs eJ b0.f3).drop (j2 * 1) = (eJ.f (b0.f3.getD j2 (0 : Int)) ++ (cs eJ (b0.f3.drop (j2 + 1)))), cs eJ b0.f3 ≠ [], ((b0.f3.getD j2 (0 : Int)) : Int) = (b0.f3.getD j2 (0 : Int))])
      (by kernel_rfl) ⟨vbB h1, (idx_S h3).1, (idx_S h3).2, cs_from (e := eJ) (d := (0 : Int)) (idx_S h3).2, cs_ne (e := eJ) (idx_S h3).2 (by decide), rfl, trivial⟩ rfl (fun _ _ h => h)
  · 
    rcases cond_cases h with ⟨h4, h⟩ | ⟨h4, h⟩
    · 
      obtain ⟨j5, h6, h⟩ := bind_cases h
      rcases cond_cases h with ⟨h7, h⟩ | ⟨h7, h⟩
      · 
        obtain ⟨j8, h9, h⟩ := bind_cases h
        obtain rfl := Option.some.inj h
        exact runRet_S (r := ⟨Try.f153.results.toList, _, _, _, [], 9⟩) (n := 100000) (c := (.code (bod Try.f153))) (K := [])
          (hs := [.h (.new 0), hA, hA, .skip, .g (.env 8 (C.v (vB false))), hA, .skip, .g (.env 14 (C.v (vB true))), hA, .h (.idv j5 (eJ.f (vars1.getD j5 (0 : Int)) ++ (cs eJ (vars1.drop (j5 + 1))))), hA, hA, .g (.env 21 (C.v (vB true))), hA, .h (.idv j8 (eJ.f (b0.f3.getD j8 (0 : Int)) ++ (cs eJ (b0.f3.drop (j8 + 1))))), hA])
          (ps := [C.v (vB (decide (b0.f1 = 1))) = C.v (vB false), C.v (vB (decide (b0.f1 = 2))) = C.v (vB true), b0.f2 = (j5 : Int), j5 < vars1.length, (cs eJ vars1).drop (j5 * 1) = (eJ.f (vars1.getD j5 (0 : Int)) ++ (cs eJ (vars1.drop (j5 + 1)))), cs eJ vars1 ≠ [], C.v (vB (!decide ((vars1.getD j5 (0 : Int)) = 0))) = C.v (vB true), 0 = (j8 : Int), j8 < b0.f3.length, (cs eJ b0.f3).drop (j8 * 1) = (eJ.f (b0.f3.getD j8 (0 : Int)) ++ (cs eJ (b0.f3.drop (j8 + 1)))), cs eJ b0.f3 ≠ [], ((b0.f3.getD j8 (0 : Int)) : Int) = (b0.f3.getD j8 (0 : Int))])
          (by kernel_rfl) ⟨vbB h1, vbB h4, (idx_S h6).1, (idx_S h6).2, cs_from (e := eJ) (d := (0 : Int)) (idx_S h6).2, cs_ne (e := eJ) (idx_S h6).2 (by decide), vbB h7, (idx_S h9).1, (idx_S h9).2, cs_from (e := eJ) (d := (0 : Int)) (idx_S h9).2, cs_ne (e := eJ) (idx_S h9).2 (by decide), rfl, trivial⟩ rfl (fun _ _ h => h)
      · 
        obtain ⟨j10, h11, h⟩ := bind_cases h
        obtain rfl := Option.some.inj h
        exact runRet_S (r := ⟨Try.f153.results.toList, _, _, _, [], 9⟩) (n := 100000) (c := (.code (bod Try.f153))) (K := [])
          (hs := [.h (.new 0), hA, hA, .skip, .g (.env 8 (C.v (vB false))), hA, .skip, .g (.env 14 (C.v (vB true))), hA, .h (.idv j5 (eJ.f (vars1.getD j5 (0 : Int)) ++ (cs eJ (vars1.drop (j5 + 1))))), hA, hA, .g (.env 21 (C.v (vB false))), hA, .h (.idv j10 (eJ.f (b0.f3.getD j10 (0 : Int)) ++ (cs eJ (b0.f3.drop (j10 + 1))))), hA])
          (ps := [C.v (vB (decide (b0.f1 = 1))) = C.v (vB false), C.v (vB (decide (b0.f1 = 2))) = C.v (vB true), b0.f2 = (j5 : Int), j5 < vars1.length, (cs eJ vars1).drop (j5 * 1) = (eJ.f (vars1.getD j5 (0 : Int)) ++ (cs eJ (vars1.drop (j5 + 1)))), cs eJ vars1 ≠ [], C.v (vB (!decide ((vars1.getD j5 (0 : Int)) = 0))) = C.v (vB false), 1 = (j10 : Int), j10 < b0.f3.length, (cs eJ b0.f3).drop (j10 * 1) = (eJ.f (b0.f3.getD j10 (0 : Int)) ++ (cs eJ (b0.f3.drop (j10 + 1)))), cs eJ b0.f3 ≠ [], ((b0.f3.getD j10 (0 : Int)) : Int) = (b0.f3.getD j10 (0 : Int))])
          (by kernel_rfl) ⟨vbB h1, vbB h4, (idx_S h6).1, (idx_S h6).2, cs_from (e := eJ) (d := (0 : Int)) (idx_S h6).2, cs_ne (e := eJ) (idx_S h6).2 (by decide), vbB h7, (idx_S h11).1, (idx_S h11).2, cs_from (e := eJ) (d := (0 : Int)) (idx_S h11).2, cs_ne (e := eJ) (idx_S h11).2 (by decide), rfl, trivial⟩ rfl (fun _ _ h => h)
    · 
      rcases cond_cases h with ⟨h12, h⟩ | ⟨h12, h⟩
      · 
        obtain ⟨j13, h14, h⟩ := bind_cases h
        rcases cond_cases h with ⟨h15, h⟩ | ⟨h15, h⟩
        · 
          obtain ⟨j16, h17, h⟩ := bind_cases h
          obtain rfl := Option.some.inj h
          exact runRet_S (r := ⟨Try.f153.results.toList, _, _, _, [], 9⟩) (n := 100000) (c := (.code (bod Try.f153))) (K := [])
            (hs := [.h (.new 0), hA, hA, .skip, .g (.env 8 (C.v (vB false))), hA, .skip, .g (.env 14 (C.v (vB false))), hA, .skip, .g (.env 30 (C.v (vB true))), hA, .h (.idv j13 (eJ.f (vars1.getD j13 (0 : Int)) ++ (cs eJ (vars1.drop (j13 + 1))))), hA, hA, hA, hA, .g (.env 41 (C.v (vB true))), hA, hA, hA, hA, .h (.idv j16 (eJ.f (b0.f3.getD j16 (0 : Int)) ++ (cs eJ (b0.f3.drop (j16 + 1))))), hA])
            (ps := [C.v (vB (decide (b0.f1 = 1))) = C.v (vB false), C.v (vB (decide (b0.f1 = 2))) = C.v (vB false), C.v (vB (decide (b0.f1 = 5))) = C.v (vB true), b0.f2 = (j13 : Int), j13 < vars1.length, (cs eJ vars1).drop (j13 * 1) = (eJ.f (vars1.getD j13 (0 : Int)) ++ (cs eJ (vars1.drop (j13 + 1)))), cs eJ vars1 ≠ [], C.v (vB (decide ((vars1.getD j13 (0 : Int)) ≥ (b0.f3.length : Int)))) = C.v (vB true), w64 ((b0.f3.length : Int) - 1) = (j16 : Int), j16 < b0.f3.length, (cs eJ b0.f3).drop (j16 * 1) = (eJ.f (b0.f3.getD j16 (0 : Int)) ++ (cs eJ (b0.f3.drop (j16 + 1)))), cs eJ b0.f3 ≠ [], ((b0.f3.getD j16 (0 : Int)) : Int) = (b0.f3.getD j16 (0 : Int))])
            (by kernel_rfl) ⟨vbB h1, vbB h4, vbB h12, (idx_S h14).1, (idx_S h14).2, cs_from (e := eJ) (d := (0 : Int)) (idx_S h14).2, cs_ne (e := eJ) (idx_S h14).2 (by decide), vbB h15, (idx_S h17).1, (idx_S h17).2, cs_from (e := eJ) (d := (0 : Int)) (idx_S h17).2, cs_ne (e := eJ) (idx_S h17).2 (by decide), rfl, trivial⟩ rfl (fun _ _ h => h)
        · 
          obtain ⟨j18, h19, h⟩ := bind_cases h
          obtain rfl := Option.some.inj h
          exact runRet_S (r := ⟨Try.f153.results.toList, _, _, _, [], 9⟩) (n := 100000) (c := (.code (bod Try.f153))) (K := [])
            (hs := [.h (.new 0), hA, hA, .skip, .g (.env 8 (C.v (vB false))), hA, .skip, .g (.env 14 (C.v (vB false))), hA, .skip, .g (.env 30 (C.v (vB true))), hA, .h (.idv j13 (eJ.f (vars1.getD j13 (0 : Int)) ++ (cs eJ (vars1.drop (j13 + 1))))), hA, hA, hA, hA, .g (.env 41 (C.v (vB false))), hA, .h (.idv j18 (eJ.f (b0.f3.getD j18 (0 : Int)) ++ (cs eJ (b0.f3.drop (j18 + 1))))), hA])
            (ps := [C.v (vB (decide (b0.f1 = 1))) = C.v (vB false), C.v (vB (decide (b0.f1 = 2))) = C.v (vB false), C.v (vB (decide (b0.f1 = 5))) = C.v (vB true), b0.f2 = (j13 : Int), j13 < vars1.length, (cs eJ vars1).drop (j13 * 1) = (eJ.f (vars1.getD j13 (0 : Int)) ++ (cs eJ (vars1.drop (j13 + 1)))), cs eJ vars1 ≠ [], C.v (vB (decide ((vars1.getD j13 (0 : Int)) ≥ (b0.f3.length : Int)))) = C.v (vB false), (vars1.getD j13 (0 : Int)) = (j18 : Int), j18 < b0.f3.length, (cs eJ b0.f3).drop (j18 * 1) = (eJ.f (b0.f3.getD j18 (0 : Int)) ++ (cs eJ (b0.f3.drop (j18 + 1)))), cs eJ b0.f3 ≠ [], ((b0.f3.getD j18 (0 : Int)) : Int) = (b0.f3.getD j18 (0 : Int))])
            (by kernel_rfl) ⟨vbB h1, vbB h4, vbB h12, (idx_S h14).1, (idx_S h14).2, cs_from (e := eJ) (d := (0 : Int)) (idx_S h14).2, cs_ne (e := eJ) (idx_S h14).2 (by decide), vbB h15, (idx_S h19).1, (idx_S h19).2, cs_from (e := eJ) (d := (0 : Int)) (idx_S h19).2, cs_ne (e := eJ) (idx_S h19).2 (by decide), rfl, trivial⟩ rfl (fun _ _ h => h)
      · 
        rcases cond_cases h with ⟨h20, h⟩ | ⟨h20, h⟩
        · 
          obtain rfl := Option.some.inj h
          exact runRet_S (r := ⟨Try.f153.results.toList, _, _, _, [], 9⟩) (n := 100000) (c := (.code (bod Try.f153))) (K := [])
            (hs := [.h (.new 0), hA, hA, .skip, .g (.env 8 (C.v (vB false))), hA, .skip, .g (.env 14 (C.v (vB false))), hA, .skip, .g (.env 30 (C.v (vB false))), hA, .skip, .g (.env 51 (C.v (vB true)))])
            (ps := [C.v (vB (decide (b0.f1 = 1))) = C.v (vB false), C.v (vB (decide (b0.f1 = 2))) = C.v (vB false), C.v (vB (decide (b0.f1 = 5))) = C.v (vB false), C.v (vB (decide (b0.f1 = 3))) = C.v (vB true), ((-1) : Int) = (-1)])
            (by kernel_rfl) ⟨vbB h1, vbB h4, vbB h12, vbB h20, rfl, trivial⟩ rfl (fun _ _ h => h)
        · 
          obtain rfl := Option.some.inj h
          exact runRet_S (r := ⟨Try.f153.results.toList, _, _, _, [], 9⟩) (n := 100000) (c := (.code (bod Try.f153))) (K := [])
            (hs := [.h (.new 0), hA, hA, .skip, .g (.env 8 (C.v (vB false))), hA, .skip, .g (.env 14 (C.v (vB false))), hA, .skip, .g (.env 30 (C.v (vB false))), hA, .skip, .g (.env 51 (C.v (vB false)))])
            (ps := [C.v (vB (decide (b0.f1 = 1))) = C.v (vB false), C.v (vB (decide (b0.f1 = 2))) = C.v (vB false), C.v (vB (decide (b0.f1 = 5))) = C.v (vB false), C.v (vB (decide (b0.f1 = 3))) = C.v (vB false), ((-2) : Int) = (-2)])
            (by kernel_rfl) ⟨vbB h1, vbB h4, vbB h12, vbB h20, rfl, trivial⟩ rfl (fun _ _ h => h)
end F153
namespace F93
/-! spec.l6Run -/
noncomputable def K0 := (subC [1, 1, 1, 1, 1, 0, 1, 0] (bod Try.f93) []).2
noncomputable def L0 := (subC [1, 1, 1, 1, 1, 0, 1, 0, 0] (bod Try.f93) []).1
noncomputable def K1 := (subC [1, 0, 1, 1, 0, 1, 0] L0 []).2
noncomputable def L1 := (subC [1, 0, 1, 1, 0, 1, 0, 0] L0 []).1
def I1 (f22 : List T115) (fuel23 : Int) (v24 : List Int) (v25 : List Int) (v26 : List Int) (out27 : List Int) (out28 : List Int) (out29 : List Int) (vars30 : List Int) (n31 : Int) (end32 : Int) (at33 : Int) (v34 : List T131) (v35 : Int) (v36 : Int) : TL := ⟨70, [C.dead, C.dead, C.dead], [(0, C.v (vS eT115 f22)), (2, C.v (vI .i64 fuel23)), (6, C.pr 0 0), (9, C.pr 4 0), (10, C.sr 8 0 1 vars30.length), (11, C.v (vI .i64 n31)), (12, C.v (vI .i64 end32)), (13, C.v (vI .i64 at33)), (34, C.v (vS eT131 v34)), (35, C.v (vI .i64 v35)), (36, C.v (vI .i64 v36))], [(1, (cs eJ v24)), (2, (cs eJ v25)), (3, (cs eJ v26)), (5, (cs eJ out27)), (6, (cs eJ out28)), (7, (cs eJ out29)), (8, (cs eJ vars30))], [(0, [C.sr 1 0 1 v24.length, C.sr 2 0 1 v25.length, C.sr 3 0 1 v26.length]), (4, [C.sr 5 0 1 out27.length, C.sr 6 0 1 out28.length, C.sr 7 0 1 out29.length])]⟩
def J1_0 (f22 : List T115) (fuel23 : Int) (v24 : List Int) (v25 : List Int) (v26 : List Int) (n31 : Int) (at33 : Int) (v34 : List T131) (v35 : Int) (o : (List Int) × (List Int) × (List Int) × (List Int) × Int) : TL := ⟨70, [C.dead, C.dead, C.dead], [(0, C.v (vS eT115 f22)), (2, C.v (vI .i64 fuel23)), (6, C.pr 0 0), (9, C.pr 4 0), (10, C.sr 8 0 1 o.2.2.2.1.length), (11, C.v (vI .i64 n31)), (12, C.v (vI .i64 o.2.2.2.2)), (13, C.v (vI .i64 at33))], [(1, (cs eJ v24)), (2, (cs eJ v25)), (3, (cs eJ v26)), (5, (cs eJ o.1)), (6, (cs eJ o.2.1)), (7, (cs eJ o.2.2.1)), (8, (cs eJ o.2.2.2.1))], [(0, [C.sr 1 0 1 v24.length, C.sr 2 0 1 v25.length, C.sr 3 0 1 v26.length]), (4, [C.sr 5 0 1 o.1.length, C.sr 6 0 1 o.2.1.length, C.sr 7 0 1 o.2.2.1.length])]⟩
def Q1 (f22 : List T115) (fuel23 : Int) (v24 : List Int) (v25 : List Int) (v26 : List Int) (n31 : Int) (at33 : Int) (v34 : List T131) (v35 : Int) (r : (List Int) × (List Int) × (List Int) × (List Int) × Int) (e : Exit) (st : St) : Prop := (fun o => e = (.exit 2) ∧ Le st (J1_0 f22 fuel23 v24 v25 v26 n31 at33 v34 v35 o).sl.st) r
def p1 (fuel : Nat) (f22 : List T115) (fuel23 : Int) (v24 : List Int) (v25 : List Int) (v26 : List Int) (n31 : Int) (at33 : Int) (v34 : List T131) (v35 : Int) : Nat → (List Int) → (List Int) → (List Int) → (List Int) → Int → Int → Option ((List Int) × (List Int) × (List Int) × (List Int) × Int)
  | 0, _, _, _, _, _, _ => none
  | n + 1, out27, out28, out29, vars30, end32, v36 =>
    cond (decide (v36 < v35))
    ((idx v36 v34.length).bind fun j38 =>
      cond (decide (end32 = 0))
      ((F152.fn fuel (v34.getD j38 (default : T131)) vars30 (⟨out27, out28, out29⟩ : T44)).bind fun r41 =>
        (chk (r41.2.1.length = vars30.length)).bind fun _ =>
        cond (!r41.1)
        (p1 fuel f22 fuel23 v24 v25 v26 n31 at33 v34 v35 n r41.2.2.f0 r41.2.2.f1 r41.2.2.f2 r41.2.1 (2 : Int) (w64 (v36 + 1)))
        (p1 fuel f22 fuel23 v24 v25 v26 n31 at33 v34 v35 n r41.2.2.f0 r41.2.2.f1 r41.2.2.f2 r41.2.1 end32 (w64 (v36 + 1))))
      (p1 fuel f22 fuel23 v24 v25 v26 n31 at33 v34 v35 n out27 out28 out29 vars30 end32 (w64 (v36 + 1))))
    (some (out27, out28, out29, vars30, end32))
theorem p1_c (fuel : Nat) (f22 : List T115) (fuel23 : Int) (v24 : List Int) (v25 : List Int) (v26 : List Int) (n31 : Int) (at33 : Int) (v34 : List T131) (v35 : Int) (n : Nat) (out27 : List Int) (out28 : List Int) (out29 : List Int) (vars30 : List Int) (end32 : Int) (v36 : Int) (r : (List Int) × (List Int) × (List Int) × (List Int) × Int) (h : p1 fuel f22 fuel23 v24 v25 v26 n31 at33 v34 v35 n out27 out28 out29 vars30 end32 v36 = some r) : TW Try.prog (.loop L1) (I1 f22 fuel23 v24 v25 v26 out27 out28 out29 vars30 n31 end32 at33 v34 v35 v36).sl.st (Q1 f22 fuel23 v24 v25 v26 n31 at33 v34 v35 r) := by
  refine loop_run (σ := (List Int) × (List Int) × (List Int) × (List Int) × Int × Int) (fun x => I1 f22 fuel23 v24 v25 v26 x.1 x.2.1 x.2.2.1 x.2.2.2.1 n31 x.2.2.2.2.1 at33 v34 v35 x.2.2.2.2.2) (fun n x => p1 fuel f22 fuel23 v24 v25 v26 n31 at33 v34 v35 n x.1 x.2.1 x.2.2.1 x.2.2.2.1 x.2.2.2.2.1 x.2.2.2.2.2) (Q1 f22 fuel23 v24 v25 v26 n31 at33 v34 v35) ?_ (fun _ => rfl) (x := (out27, out28, out29, vars30, end32, v36)) h
  clear h
  rintro n ⟨out27, out28, out29, vars30, end32, v36⟩ r h
  replace h : p1 fuel f22 fuel23 v24 v25 v26 n31 at33 v34 v35 (n + 1) out27 out28 out29 vars30 end32 v36 = some r := h
  rw [p1] at h
  rcases cond_cases h with ⟨h37, h⟩ | ⟨h37, h⟩
  · 
    obtain ⟨j38, h39, h⟩ := bind_cases h
    rcases cond_cases h with ⟨h40, h⟩ | ⟨h40, h⟩
    · 
      obtain ⟨r41, h42, h⟩ := bind_cases h
      obtain ⟨_, h43, h⟩ := bind_cases h
      rcases cond_cases h with ⟨h44, h⟩ | ⟨h44, h⟩
      · 
        exact runAt_S (Q := Round _ (n + 1) _) (n := 100000) (c := (.code L1)) (K := []) (s := (I1 f22 fuel23 v24 v25 v26 out27 out28 out29 vars30 n31 end32 at33 v34 v35 v36).sl) (e := .normal) (t := I1 f22 fuel23 v24 v25 v26 r41.2.2.f0 r41.2.2.f1 r41.2.2.f2 r41.2.1 n31 (2 : Int) at33 v34 v35 (w64 (v36 + 1))) (l := [(0, 0), (1, 1), (2, 2), (3, 3), (4, 4), (5, 10), (6, 11), (7, 12), (8, 8)])
          (hs := [hA, .g (.env 37 (C.v (vB true))), .h (.idv j38 (eT131.f (v34.getD j38 (default : T131)) ++ (cs eT131 (v34.drop (j38 + 1))))), hA, .h (.new 9), hA, hA, .skip, .g (.env 42 (C.v (vB true))), hA, .call ⟨[.ro, (.io none), (.io none)], 9, [(8, (cs eJ vars30), (cs eJ vars30)), (5, (cs eJ out27), (cs eJ out27)), (6, (cs eJ out28), (cs eJ out28)), (7, (cs eJ out29), (cs eJ out29))], true, [(vS eJ r41.2.1), (.bx (eT44.f r41.2.2))], (vB r41.1), [(own (cs eJ r41.2.1)), [C.own (vS eJ r41.2.2.f0), C.own (vS eJ r41.2.2.f1), C.own (vS eJ r41.2.2.f2)]], 10⟩, .g (.opn 4 0 10), .g (.opn 4 1 11), .g (.opn 4 2 12), hA, .skip, .g (.env 47 (C.v (vB true))), hA])
          (ps := [C.v (vB (decide (v36 < v35))) = C.v (vB true), v36 = (j38 : Int), j38 < v34.length, (cs eT131 v34).drop (j38 * 6) = (eT131.f (v34.getD j38 (default : T131)) ++ (cs eT131 (v34.drop (j38 + 1)))), cs eT131 v34 ≠ [], C.v (vB (decide (end32 = 0))) = C.v (vB true), CallOK Try.prog 152 [.ro (.ag [(vI .i64 ((v34.getD j38 (default : T131)).f0)), (vI .i64 ((v34.getD j38 (default : T131)).f1)), (vI .i64 ((v34.getD j38 (default : T131)).f2)), (vI .i64 ((v34.getD j38 (default : T131)).f3)), (vI .i64 ((v34.getD j38 (default : T131)).f4)), (vI .i64 ((v34.getD j38 (default : T131)).f5))]), .io (.sl 1 vars30.length (cs eJ vars30)), .io (.bx [(.sl 1 out27.length (cs eJ out27)), (.sl 1 out28.length (cs eJ out28)), (.sl 1 out29.length (cs eJ out29))])] [(vS eJ r41.2.1), (.bx (eT44.f r41.2.2))] (vB r41.1), (own (cs eJ vars30)) = (cs eJ vars30).map C.own, 0 + vars30.length * 1 ≤ (own (cs eJ vars30)).length, ((cs eJ vars30).drop (0)).take (vars30.length * 1) = (cs eJ vars30), (own (cs eJ out27)) = (cs eJ out27).map C.own, 0 + out27.length * 1 ≤ (cs eJ out27).length, ((cs eJ out27).drop (0)).take (out27.length * 1) = (cs eJ out27), (own (cs eJ out28)) = (cs eJ out28).map C.own, 0 + out28.length * 1 ≤ (cs eJ out28).length, ((cs eJ out28).drop (0)).take (out28.length * 1) = (cs eJ out28), (own (cs eJ out29)) = (cs eJ out29).map C.own, 0 + out29.length * 1 ≤ (cs eJ out29).length, ((cs eJ out29).drop (0)).take (out29.length * 1) = (cs eJ out29), ((eT44.f r41.2.2) : List V).length = 3, (cs eJ r41.2.1).length = (own (cs eJ vars30)).length - 0 ∨ (own (cs eJ vars30)).length ≤ 0 + ((own (cs eJ vars30)).length - 0), (own (cs eJ vars30)).take 0 ++ (cs eJ r41.2.1).map C.own ++ (own (cs eJ vars30)).drop (0 + ((own (cs eJ vars30)).length - 0)) = (own (cs eJ r41.2.1)), ((eT44.f r41.2.2) : List V).length = 3 ∨ ([C.sr 5 0 1 out27.length, C.sr 6 0 1 out28.length, C.sr 7 0 1 out29.length] : List C).length ≤ 0 + 3, ([C.sr 5 0 1 out27.length, C.sr 6 0 1 out28.length, C.sr 7 0 1 out29.length] : List C).take 0 ++ ((eT44.f r41.2.2) : List V).map C.own ++ ([C.sr 5 0 1 out27.length, C.sr 6 0 1 out28.length, C.sr 7 0 1 out29.length] : List C).drop (0 + 3) = [C.own (vS eJ r41.2.2.f0), C.own (vS eJ r41.2.2.f1), C.own (vS eJ r41.2.2.f2)], C.v (vB (!r41.1)) = C.v (vB true), ((vS eT115 f22) : V) = (vS eT115 f22), (fuel23 : Int) = fuel23, 0 = 0, 0 = 0, 0 = 0, vars30.length = r41.2.1.length, (n31 : Int) = n31, (2 : Int) = (2 : Int), (at33 : Int) = at33, ((vS eT131 v34) : V) = (vS eT131 v34), (v35 : Int) = v35, (w64 (v36 + 1) : Int) = (w64 (v36 + 1)), (own (cs eJ v24)) = (cs eJ v24).map C.own, (own (cs eJ v25)) = (cs eJ v25).map C.own, (own (cs eJ v26)) = (cs eJ v26).map C.own, (own (cs eJ r41.2.2.f0)) = (cs eJ r41.2.2.f0).map C.own, (own (cs eJ r41.2.2.f1)) = (cs eJ r41.2.2.f1).map C.own, (own (cs eJ r41.2.2.f2)) = (cs eJ r41.2.2.f2).map C.own, (own (cs eJ r41.2.1)) = (cs eJ r41.2.1).map C.own, 0 = 0, v24.length = v24.length, 0 = 0, v25.length = v25.length, 0 = 0, v26.length = v26.length, 0 = 0, r41.2.2.f0.length = r41.2.2.f0.length, 0 = 0, r41.2.2.f1.length = r41.2.2.f1.length, 0 = 0, r41.2.2.f2.length = r41.2.2.f2.length])
          (by kernel_rfl) ⟨vbB h37, (idx_S h39).1, (idx_S h39).2, cs_from (e := eT131) (d := (default : T131)) (idx_S h39).2, cs_ne (e := eT131) (idx_S h39).2 (by decide), vbB h40, F152.fn_c fuel (v34.getD j38 (default : T131)) vars30 (⟨out27, out28, out29⟩ : T44) _ h42, rfl, by rw [own_length]; exact len_all (e := eJ) (rfl), take_cs (e := eJ) (rfl), rfl, len_all (e := eJ) (rfl), take_cs (e := eJ) (rfl), rfl, len_all (e := eJ) (rfl), take_cs (e := eJ) (rfl), rfl, len_all (e := eJ) (rfl), take_cs (e := eJ) (rfl), rfl, .inr (len_back _), back_all _ _, .inl rfl, rfl, vbB h44, rfl, rfl, rfl, rfl, rfl, ((chk_S h43)).symm, rfl, rfl, rfl, rfl, rfl, rfl, rfl, rfl, rfl, rfl, rfl, rfl, rfl, rfl, rfl, rfl, rfl, rfl, rfl, rfl, rfl, rfl, rfl, rfl, rfl, trivial⟩ (fun st hl => ⟨n, _, Nat.lt_succ_self n, hl, (r41.2.2.f0, r41.2.2.f1, r41.2.2.f2, r41.2.1, (2 : Int), w64 (v36 + 1)), rfl, rfl, h⟩)
      · 
        exact runAt_S (Q := Round _ (n + 1) _) (n := 100000) (c := (.code L1)) (K := []) (s := (I1 f22 fuel23 v24 v25 v26 out27 out28 out29 vars30 n31 end32 at33 v34 v35 v36).sl) (e := .normal) (t := I1 f22 fuel23 v24 v25 v26 r41.2.2.f0 r41.2.2.f1 r41.2.2.f2 r41.2.1 n31 end32 at33 v34 v35 (w64 (v36 + 1))) (l := [(0, 0), (1, 1), (2, 2), (3, 3), (4, 4), (5, 10), (6, 11), (7, 12), (8, 8)])
          (hs := [hA, .g (.env 37 (C.v (vB true))), .h (.idv j38 (eT131.f (v34.getD j38 (default : T131)) ++ (cs eT131 (v34.drop (j38 + 1))))), hA, .h (.new 9), hA, hA, .skip, .g (.env 42 (C.v (vB true))), hA, .call ⟨[.ro, (.io none), (.io none)], 9, [(8, (cs eJ vars30), (cs eJ vars30)), (5, (cs eJ out27), (cs eJ out27)), (6, (cs eJ out28), (cs eJ out28)), (7, (cs eJ out29), (cs eJ out29))], true, [(vS eJ r41.2.1), (.bx (eT44.f r41.2.2))], (vB r41.1), [(own (cs eJ r41.2.1)), [C.own (vS eJ r41.2.2.f0), C.own (vS eJ r41.2.2.f1), C.own (vS eJ r41.2.2.f2)]], 10⟩, .g (.opn 4 0 10), .g (.opn 4 1 11), .g (.opn 4 2 12), hA, .skip, .g (.env 47 (C.v (vB false))), hA])
          (ps := [C.v (vB (decide (v36 < v35))) = C.v (vB true), v36 = (j38 : Int), j38 < v34.length, (cs eT131 v34).drop (j38 * 6) = (eT131.f (v34.getD j38 (default : T131)) ++ (cs eT131 (v34.drop (j38 + 1)))), cs eT131 v34 ≠ [], C.v (vB (decide (end32 = 0))) = C.v (vB true), CallOK Try.prog 152 [.ro (.ag [(vI .i64 ((v34.getD j38 (default : T131)).f0)), (vI .i64 ((v34.getD j38 (default : T131)).f1)), (vI .i64 ((v34.getD j38 (default : T131)).f2)), (vI .i64 ((v34.getD j38 (default : T131)).f3)), (vI .i64 ((v34.getD j38 (default : T131)).f4)), (vI .i64 ((v34.getD j38 (default : T131)).f5))]), .io (.sl 1 vars30.length (cs eJ vars30)), .io (.bx [(.sl 1 out27.length (cs eJ out27)), (.sl 1 out28.length (cs eJ out28)), (.sl 1 out29.length (cs eJ out29))])] [(vS eJ r41.2.1), (.bx (eT44.f r41.2.2))] (vB r41.1), (own (cs eJ vars30)) = (cs eJ vars30).map C.own, 0 + vars30.length * 1 ≤ (own (cs eJ vars30)).length, ((cs eJ vars30).drop (0)).take (vars30.length * 1) = (cs eJ vars30), (own (cs eJ out27)) = (cs eJ out27).map C.own, 0 + out27.length * 1 ≤ (cs eJ out27).length, ((cs eJ out27).drop (0)).take (out27.length * 1) = (cs eJ out27), (own (cs eJ out28)) = (cs eJ out28).map C.own, 0 + out28.length * 1 ≤ (cs eJ out28).length, ((cs eJ out28).drop (0)).take (out28.length * 1) = (cs eJ out28), (own (cs eJ out29)) = (cs eJ out29).map C.own, 0 + out29.length * 1 ≤ (cs eJ out29).length, ((cs eJ out29).drop (0)).take (out29.length * 1) = (cs eJ out29), ((eT44.f r41.2.2) : List V).length = 3, (cs eJ r41.2.1).length = (own (cs eJ vars30)).length - 0 ∨ (own (cs eJ vars30)).length ≤ 0 + ((own (cs eJ vars30)).length - 0), (own (cs eJ vars30)).take 0 ++ (cs eJ r41.2.1).map C.own ++ (own (cs eJ vars30)).drop (0 + ((own (cs eJ vars30)).length - 0)) = (own (cs eJ r41.2.1)), ((eT44.f r41.2.2) : List V).length = 3 ∨ ([C.sr 5 0 1 out27.length, C.sr 6 0 1 out28.length, C.sr 7 0 1 out29.length] : List C).length ≤ 0 + 3, ([C.sr 5 0 1 out27.length, C.sr 6 0 1 out28.length, C.sr 7 0 1 out29.length] : List C).take 0 ++ ((eT44.f r41.2.2) : List V).map C.own ++ ([C.sr 5 0 1 out27.length, C.sr 6 0 1 out28.length, C.sr 7 0 1 out29.length] : List C).drop (0 + 3) = [C.own (vS eJ r41.2.2.f0), C.own (vS eJ r41.2.2.f1), C.own (vS eJ r41.2.2.f2)], C.v (vB (!r41.1)) = C.v (vB false), ((vS eT115 f22) : V) = (vS eT115 f22), (fuel23 : Int) = fuel23, 0 = 0, 0 = 0, 0 = 0, vars30.length = r41.2.1.length, (n31 : Int) = n31, (end32 : Int) = end32, (at33 : Int) = at33, ((vS eT131 v34) : V) = (vS eT131 v34), (v35 : Int) = v35, (w64 (v36 + 1) : Int) = (w64 (v36 + 1)), (own (cs eJ v24)) = (cs eJ v24).map C.own, (own (cs eJ v25)) = (cs eJ v25).map C.own, (own (cs eJ v26)) = (cs eJ v26).map C.own, (own (cs eJ r41.2.2.f0)) = (cs eJ r41.2.2.f0).map C.own, (own (cs eJ r41.2.2.f1)) = (cs eJ r41.2.2.f1).map C.own, (own (cs eJ r41.2.2.f2)) = (cs eJ r41.2.2.f2).map C.own, (own (cs eJ r41.2.1)) = (cs eJ r41.2.1).map C.own, 0 = 0, v24.length = v24.length, 0 = 0, v25.length = v25.length, 0 = 0, v26.length = v26.length, 0 = 0, r41.2.2.f0.length = r41.2.2.f0.length, 0 = 0, r41.2.2.f1.length = r41.2.2.f1.length, 0 = 0, r41.2.2.f2.length = r41.2.2.f2.length])
          (by kernel_rfl) ⟨vbB h37, (idx_S h39).1, (idx_S h39).2, cs_from (e := eT131) (d := (default : T131)) (idx_S h39).2, cs_ne (e := eT131) (idx_S h39).2 (by decide), vbB h40, F152.fn_c fuel (v34.getD j38 (default : T131)) vars30 (⟨out27, out28, out29⟩ : T44) _ h42, rfl, by rw [own_length]; exact len_all (e := eJ) (rfl), take_cs (e := eJ) (rfl), rfl, len_all (e := eJ) (rfl), take_cs (e := eJ) (rfl), rfl, len_all (e := eJ) (rfl), take_cs (e := eJ) (rfl), rfl, len_all (e := eJ) (rfl), take_cs (e := eJ) (rfl), rfl, .inr (len_back _), back_all _ _, .inl rfl, rfl, vbB h44, rfl, rfl, rfl, rfl, rfl, ((chk_S h43)).symm, rfl, rfl, rfl, rfl, rfl, rfl, rfl, rfl, rfl, rfl, rfl, rfl, rfl, rfl, rfl, rfl, rfl, rfl, rfl, rfl, rfl, rfl, rfl, rfl, rfl, trivial⟩ (fun st hl => ⟨n, _, Nat.lt_succ_self n, hl, (r41.2.2.f0, r41.2.2.f1, r41.2.2.f2, r41.2.1, end32, w64 (v36 + 1)), rfl, rfl, h⟩)
    · 
      exact runAt_S (Q := Round _ (n + 1) _) (n := 100000) (c := (.code L1)) (K := []) (s := (I1 f22 fuel23 v24 v25 v26 out27 out28 out29 vars30 n31 end32 at33 v34 v35 v36).sl) (e := .normal) (t := I1 f22 fuel23 v24 v25 v26 out27 out28 out29 vars30 n31 end32 at33 v34 v35 (w64 (v36 + 1))) (l := [(0, 0), (1, 1), (2, 2), (3, 3), (4, 4), (5, 5), (6, 6), (7, 7), (8, 8)])
        (hs := [hA, .g (.env 37 (C.v (vB true))), .h (.idv j38 (eT131.f (v34.getD j38 (default : T131)) ++ (cs eT131 (v34.drop (j38 + 1))))), hA, .h (.new 9), hA, hA, .skip, .g (.env 42 (C.v (vB false))), hA])
        (ps := [C.v (vB (decide (v36 < v35))) = C.v (vB true), v36 = (j38 : Int), j38 < v34.length, (cs eT131 v34).drop (j38 * 6) = (eT131.f (v34.getD j38 (default : T131)) ++ (cs eT131 (v34.drop (j38 + 1)))), cs eT131 v34 ≠ [], C.v (vB (decide (end32 = 0))) = C.v (vB false), ((vS eT115 f22) : V) = (vS eT115 f22), (fuel23 : Int) = fuel23, 0 = 0, 0 = 0, 0 = 0, vars30.length = vars30.length, (n31 : Int) = n31, (end32 : Int) = end32, (at33 : Int) = at33, ((vS eT131 v34) : V) = (vS eT131 v34), (v35 : Int) = v35, (w64 (v36 + 1) : Int) = (w64 (v36 + 1)), (own (cs eJ v24)) = (cs eJ v24).map C.own, (own (cs eJ v25)) = (cs eJ v25).map C.own, (own (cs eJ v26)) = (cs eJ v26).map C.own, (own (cs eJ out27)) = (cs eJ out27).map C.own, (own (cs eJ out28)) = (cs eJ out28).map C.own, (own (cs eJ out29)) = (cs eJ out29).map C.own, (own (cs eJ vars30)) = (cs eJ vars30).map C.own, 0 = 0, v24.length = v24.length, 0 = 0, v25.length = v25.length, 0 = 0, v26.length = v26.length, 0 = 0, out27.length = out27.length, 0 = 0, out28.length = out28.length, 0 = 0, out29.length = out29.length])
        (by kernel_rfl) ⟨vbB h37, (idx_S h39).1, (idx_S h39).2, cs_from (e := eT131) (d := (default : T131)) (idx_S h39).2, cs_ne (e := eT131) (idx_S h39).2 (by decide), vbB h40, rfl, rfl, rfl, rfl, rfl, rfl, rfl, rfl, rfl, rfl, rfl, rfl, rfl, rfl, rfl, rfl, rfl, rfl, rfl, rfl, rfl, rfl, rfl, rfl, rfl, rfl, rfl, rfl, rfl, rfl, rfl, trivial⟩ (fun st hl => ⟨n, _, Nat.lt_succ_self n, hl, (out27, out28, out29, vars30, end32, w64 (v36 + 1)), rfl, rfl, h⟩)
  · 
    obtain rfl := Option.some.inj h
    exact runAt_S (Q := Round _ (n + 1) _) (n := 100000) (c := (.code L1)) (K := []) (s := (I1 f22 fuel23 v24 v25 v26 out27 out28 out29 vars30 n31 end32 at33 v34 v35 v36).sl) (e := (.exit 2)) (t := J1_0 f22 fuel23 v24 v25 v26 n31 at33 v34 v35 (out27, out28, out29, vars30, end32)) (l := [(0, 0), (1, 1), (2, 2), (3, 3), (4, 4), (5, 5), (6, 6), (7, 7), (8, 8)])
      (hs := [hA, .g (.env 37 (C.v (vB false)))])
      (ps := [C.v (vB (decide (v36 < v35))) = C.v (vB false), ((vS eT115 f22) : V) = (vS eT115 f22), (fuel23 : Int) = fuel23, 0 = 0, 0 = 0, 0 = 0, vars30.length = vars30.length, (n31 : Int) = n31, (end32 : Int) = end32, (at33 : Int) = at33, (own (cs eJ v24)) = (cs eJ v24).map C.own, (own (cs eJ v25)) = (cs eJ v25).map C.own, (own (cs eJ v26)) = (cs eJ v26).map C.own, (own (cs eJ out27)) = (cs eJ out27).map C.own, (own (cs eJ out28)) = (cs eJ out28).map C.own, (own (cs eJ out29)) = (cs eJ out29).map C.own, (own (cs eJ vars30)) = (cs eJ vars30).map C.own, 0 = 0, v24.length = v24.length, 0 = 0, v25.length = v25.length, 0 = 0, v26.length = v26.length, 0 = 0, out27.length = out27.length, 0 = 0, out28.length = out28.length, 0 = 0, out29.length = out29.length])
      (by kernel_rfl) ⟨vbB h37, rfl, rfl, rfl, rfl, rfl, rfl, rfl, rfl, rfl, rfl, rfl, rfl, rfl, rfl, rfl, rfl, rfl, rfl, rfl, rfl, rfl, rfl, rfl, rfl, rfl, rfl, rfl, rfl, trivial⟩ (fun st hl => ⟨rfl, hl⟩)
def I0 (f6 : List T115) (fuel7 : Int) (v8 : List Int) (v9 : List Int) (v10 : List Int) (out11 : List Int) (out12 : List Int) (out13 : List Int) (vars14 : List Int) (n15 : Int) (end16 : Int) (at17 : Int) : TL := ⟨70, [C.dead, C.dead, C.dead], [(0, C.v (vS eT115 f6)), (2, C.v (vI .i64 fuel7)), (6, C.pr 0 0), (9, C.pr 4 0), (10, C.sr 8 0 1 vars14.length), (11, C.v (vI .i64 n15)), (12, C.v (vI .i64 end16)), (13, C.v (vI .i64 at17))], [(1, (cs eJ v8)), (2, (cs eJ v9)), (3, (cs eJ v10)), (5, (cs eJ out11)), (6, (cs eJ out12)), (7, (cs eJ out13)), (8, (cs eJ vars14))], [(0, [C.sr 1 0 1 v8.length, C.sr 2 0 1 v9.length, C.sr 3 0 1 v10.length]), (4, [C.sr 5 0 1 out11.length, C.sr 6 0 1 out12.length, C.sr 7 0 1 out13.length])]⟩
def J0_0 (f6 : List T115) (fuel7 : Int) (v8 : List Int) (v9 : List Int) (v10 : List Int) (o : (List Int) × (List Int) × (List Int) × (List Int) × Int × Int) : TL := ⟨70, [C.dead, C.dead, C.dead], [(6, C.pr 0 0), (9, C.pr 4 0), (10, C.sr 8 0 1 o.2.2.2.1.length), (11, C.v (vI .i64 o.2.2.2.2.1)), (12, C.v (vI .i64 o.2.2.2.2.2))], [(1, (cs eJ v8)), (2, (cs eJ v9)), (3, (cs eJ v10)), (5, (cs eJ o.1)), (6, (cs eJ o.2.1)), (7, (cs eJ o.2.2.1)), (8, (cs eJ o.2.2.2.1))], [(0, [C.sr 1 0 1 v8.length, C.sr 2 0 1 v9.length, C.sr 3 0 1 v10.length]), (4, [C.sr 5 0 1 o.1.length, C.sr 6 0 1 o.2.1.length, C.sr 7 0 1 o.2.2.1.length])]⟩
def Q0 (f6 : List T115) (fuel7 : Int) (v8 : List Int) (v9 : List Int) (v10 : List Int) (r : (List Int) × (List Int) × (List Int) × (List Int) × Int × Int) (e : Exit) (st : St) : Prop := (fun o => e = (.exit 0) ∧ Le st (J0_0 f6 fuel7 v8 v9 v10 o).sl.st) r
def p0 (fuel : Nat) (f6 : List T115) (fuel7 : Int) (v8 : List Int) (v9 : List Int) (v10 : List Int) : Nat → (List Int) → (List Int) → (List Int) → (List Int) → Int → Int → Int → Option ((List Int) × (List Int) × (List Int) × (List Int) × Int × Int)
  | 0, _, _, _, _, _, _, _ => none
  | n + 1, out11, out12, out13, vars14, n15, end16, at17 =>
    cond (decide (end16 = 0))
    (cond (decide (n15 = fuel7))
      (some (out11, out12, out13, vars14, n15, (3 : Int)))
      ((idx at17 f6.length).bind fun j20 =>
        (p1 fuel f6 fuel7 v8 v9 v10 (w64 (n15 + 1)) at17 ((f6.getD j20 (default : T115)).f0) (((f6.getD j20 (default : T115)).f0).length : Int) fuel out11 out12 out13 vars14 end16 (0 : Int)).bind fun r45 =>
        cond (!decide (r45.2.2.2.2 = 0))
        (some (r45.1, r45.2.1, r45.2.2.1, r45.2.2.2.1, w64 (n15 + 1), r45.2.2.2.2))
        ((F153.fn fuel (f6.getD j20 (default : T115)) r45.2.2.2.1).bind fun r48 =>
          cond (decide (r48 = (-1)))
          (p0 fuel f6 fuel7 v8 v9 v10 n r45.1 r45.2.1 r45.2.2.1 r45.2.2.2.1 (w64 (n15 + 1)) (1 : Int) r48)
          (cond (decide (r48 = (-2)))
            (p0 fuel f6 fuel7 v8 v9 v10 n r45.1 r45.2.1 r45.2.2.1 r45.2.2.2.1 (w64 (n15 + 1)) (2 : Int) r48)
            (p0 fuel f6 fuel7 v8 v9 v10 n r45.1 r45.2.1 r45.2.2.1 r45.2.2.2.1 (w64 (n15 + 1)) r45.2.2.2.2 r48)))))
    (some (out11, out12, out13, vars14, n15, end16))
theorem p0_c (fuel : Nat) (f6 : List T115) (fuel7 : Int) (v8 : List Int) (v9 : List Int) (v10 : List Int) (n : Nat) (out11 : List Int) (out12 : List Int) (out13 : List Int) (vars14 : List Int) (n15 : Int) (end16 : Int) (at17 : Int) (r : (List Int) × (List Int) × (List Int) × (List Int) × Int × Int) (h : p0 fuel f6 fuel7 v8 v9 v10 n out11 out12 out13 vars14 n15 end16 at17 = some r) : TW Try.prog (.loop L0) (I0 f6 fuel7 v8 v9 v10 out11 out12 out13 vars14 n15 end16 at17).sl.st (Q0 f6 fuel7 v8 v9 v10 r) := by
  refine loop_run (σ := (List Int) × (List Int) × (List Int) × (List Int) × Int × Int × Int) (fun x => I0 f6 fuel7 v8 v9 v10 x.1 x.2.1 x.2.2.1 x.2.2.2.1 x.2.2.2.2.1 x.2.2.2.2.2.1 x.2.2.2.2.2.2) (fun n x => p0 fuel f6 fuel7 v8 v9 v10 n x.1 x.2.1 x.2.2.1 x.2.2.2.1 x.2.2.2.2.1 x.2.2.2.2.2.1 x.2.2.2.2.2.2) (Q0 f6 fuel7 v8 v9 v10) ?_ (fun _ => rfl) (x := (out11, out12, out13, vars14, n15, end16, at17)) h
  clear h
  rintro n ⟨out11, out12, out13, vars14, n15, end16, at17⟩ r h
  replace h : p0 fuel f6 fuel7 v8 v9 v10 (n + 1) out11 out12 out13 vars14 n15 end16 at17 = some r := h
  rw [p0] at h
  rcases cond_cases h with ⟨h18, h⟩ | ⟨h18, h⟩
  · 
    rcases cond_cases h with ⟨h19, h⟩ | ⟨h19, h⟩
    · 
      obtain rfl := Option.some.inj h
      exact runAt_S (Q := Round _ (n + 1) _) (n := 100000) (c := (.code L0)) (K := []) (s := (I0 f6 fuel7 v8 v9 v10 out11 out12 out13 vars14 n15 end16 at17).sl) (e := (.exit 0)) (t := J0_0 f6 fuel7 v8 v9 v10 (out11, out12, out13, vars14, n15, (3 : Int))) (l := [(0, 0), (1, 1), (2, 2), (3, 3), (4, 4), (5, 5), (6, 6), (7, 7), (8, 8)])
        (hs := [hA, .g (.env 24 (C.v (vB true))), hA, .g (.env 27 (C.v (vB true)))])
        (ps := [C.v (vB (decide (end16 = 0))) = C.v (vB true), C.v (vB (decide (n15 = fuel7))) = C.v (vB true), 0 = 0, 0 = 0, 0 = 0, vars14.length = vars14.length, (n15 : Int) = n15, (3 : Int) = (3 : Int), (own (cs eJ v8)) = (cs eJ v8).map C.own, (own (cs eJ v9)) = (cs eJ v9).map C.own, (own (cs eJ v10)) = (cs eJ v10).map C.own, (own (cs eJ out11)) = (cs eJ out11).map C.own, (own (cs eJ out12)) = (cs eJ out12).map C.own, (own (cs eJ out13)) = (cs eJ out13).map C.own, (own (cs eJ vars14)) = (cs eJ vars14).map C.own, 0 = 0, v8.length = v8.length, 0 = 0, v9.length = v9.length, 0 = 0, v10.length = v10.length, 0 = 0, out11.length = out11.length, 0 = 0, out12.length = out12.length, 0 = 0, out13.length = out13.length])
        (by kernel_rfl) ⟨vbB h18, vbB h19, rfl, rfl, rfl, rfl, rfl, rfl, rfl, rfl, rfl, rfl, rfl, rfl, rfl, rfl, rfl, rfl, rfl, rfl, rfl, rfl, rfl, rfl, rfl, rfl, rfl, trivial⟩ (fun st hl => ⟨rfl, hl⟩)
    · 
      obtain ⟨j20, h21, h⟩ := bind_cases h
      obtain ⟨r45, h46, h⟩ := bind_cases h
      refine runTo_S (n := 100000) (c := (.code L0)) (K := []) (s := (I0 f6 fuel7 v8 v9 v10 out11 out12 out13 vars14 n15 end16 at17).sl) (b := (.code (.loop L1))) (K1 := K1) (t := I1 f6 fuel7 v8 v9 v10 out11 out12 out13 vars14 (w64 (n15 + 1)) end16 at17 ((f6.getD j20 (default : T115)).f0) (((f6.getD j20 (default : T115)).f0).length : Int) (0 : Int)) (l := [(0, 0), (1, 1), (2, 2), (3, 3), (4, 4), (5, 5), (6, 6), (7, 7), (8, 8)])
        (hs := [hA, .g (.env 24 (C.v (vB true))), hA, .g (.env 27 (C.v (vB false))), hA, .h (.idv j20 (eT115.f (f6.getD j20 (default : T115)) ++ (cs eT115 (f6.drop (j20 + 1))))), hA, hA])
        (ps := [C.v (vB (decide (end16 = 0))) = C.v (vB true), C.v (vB (decide (n15 = fuel7))) = C.v (vB false), at17 = (j20 : Int), j20 < f6.length, (cs eT115 f6).drop (j20 * 4) = (eT115.f (f6.getD j20 (default : T115)) ++ (cs eT115 (f6.drop (j20 + 1)))), cs eT115 f6 ≠ [], ((vS eT115 f6) : V) = (vS eT115 f6), (fuel7 : Int) = fuel7, 0 = 0, 0 = 0, 0 = 0, vars14.length = vars14.length, (w64 (n15 + 1) : Int) = (w64 (n15 + 1)), (end16 : Int) = end16, (at17 : Int) = at17, ((vS eT131 ((f6.getD j20 (default : T115)).f0)) : V) = (vS eT131 ((f6.getD j20 (default : T115)).f0)), ((((f6.getD j20 (default : T115)).f0).length : Int) : Int) = (((f6.getD j20 (default : T115)).f0).length : Int), (0 : Int) = (0 : Int), (own (cs eJ v8)) = (cs eJ v8).map C.own, (own (cs eJ v9)) = (cs eJ v9).map C.own, (own (cs eJ v10)) = (cs eJ v10).map C.own, (own (cs eJ out11)) = (cs eJ out11).map C.own, (own (cs eJ out12)) = (cs eJ out12).map C.own, (own (cs eJ out13)) = (cs eJ out13).map C.own, (own (cs eJ vars14)) = (cs eJ vars14).map C.own, 0 = 0, v8.length = v8.length, 0 = 0, v9.length = v9.length, 0 = 0, v10.length = v10.length, 0 = 0, out11.length = out11.length, 0 = 0, out12.length = out12.length, 0 = 0, out13.length = out13.length])
        (by kernel_rfl) ⟨vbB h18, vbB h19, (idx_S h21).1, (idx_S h21).2, cs_from (e := eT115) (d := (default : T115)) (idx_S h21).2, cs_ne (e := eT115) (idx_S h21).2 (by decide), rfl, rfl, rfl, rfl, rfl, rfl, rfl, rfl, rfl, rfl, rfl, rfl, rfl, rfl, rfl, rfl, rfl, rfl, rfl, rfl, rfl, rfl, rfl, rfl, rfl, rfl, rfl, rfl, rfl, rfl, rfl, trivial⟩ (cut_code ?_)
      refine TW.mono_le (p1_c fuel f6 fuel7 v8 v9 v10 (w64 (n15 + 1)) at17 ((f6.getD j20 (default : T115)).f0) (((f6.getD j20 (default : T115)).f0).length : Int) fuel out11 out12 out13 vars14 end16 (0 : Int) _ h46) ?_
      rintro e st hq
      obtain ⟨rfl, hl⟩ := hq
      refine ⟨_, hl, ?_⟩
      rcases cond_cases h with ⟨h47, h⟩ | ⟨h47, h⟩
      · 
        obtain rfl := Option.some.inj h
        exact runAt_S (Q := Round _ (n + 1) _) (n := 100000) (c := (.out (.exit 2))) (K := K1) (s := (J1_0 f6 fuel7 v8 v9 v10 (w64 (n15 + 1)) at17 ((f6.getD j20 (default : T115)).f0) (((f6.getD j20 (default : T115)).f0).length : Int) r45).sl) (e := (.exit 0)) (t := J0_0 f6 fuel7 v8 v9 v10 (r45.1, r45.2.1, r45.2.2.1, r45.2.2.2.1, w64 (n15 + 1), r45.2.2.2.2)) (l := [(0, 0), (1, 1), (2, 2), (3, 3), (4, 4), (5, 5), (6, 6), (7, 7), (8, 8)])
          (hs := [hA, .g (.env 50 (C.v (vB true)))])
          (ps := [C.v (vB (!decide (r45.2.2.2.2 = 0))) = C.v (vB true), 0 = 0, 0 = 0, 0 = 0, r45.2.2.2.1.length = r45.2.2.2.1.length, (w64 (n15 + 1) : Int) = (w64 (n15 + 1)), (r45.2.2.2.2 : Int) = r45.2.2.2.2, (own (cs eJ v8)) = (cs eJ v8).map C.own, (own (cs eJ v9)) = (cs eJ v9).map C.own, (own (cs eJ v10)) = (cs eJ v10).map C.own, (own (cs eJ r45.1)) = (cs eJ r45.1).map C.own, (own (cs eJ r45.2.1)) = (cs eJ r45.2.1).map C.own, (own (cs eJ r45.2.2.1)) = (cs eJ r45.2.2.1).map C.own, (own (cs eJ r45.2.2.2.1)) = (cs eJ r45.2.2.2.1).map C.own, 0 = 0, v8.length = v8.length, 0 = 0, v9.length = v9.length, 0 = 0, v10.length = v10.length, 0 = 0, r45.1.length = r45.1.length, 0 = 0, r45.2.1.length = r45.2.1.length, 0 = 0, r45.2.2.1.length = r45.2.2.1.length])
          (by kernel_rfl) ⟨vbB h47, rfl, rfl, rfl, rfl, rfl, rfl, rfl, rfl, rfl, rfl, rfl, rfl, rfl, rfl, rfl, rfl, rfl, rfl, rfl, rfl, rfl, rfl, rfl, rfl, rfl, trivial⟩ (fun st hl => ⟨rfl, hl⟩)
      · 
        obtain ⟨r48, h49, h⟩ := bind_cases h
        rcases cond_cases h with ⟨h50, h⟩ | ⟨h50, h⟩
        · 
          exact runAt_S (Q := Round _ (n + 1) _) (n := 100000) (c := (.out (.exit 2))) (K := K1) (s := (J1_0 f6 fuel7 v8 v9 v10 (w64 (n15 + 1)) at17 ((f6.getD j20 (default : T115)).f0) (((f6.getD j20 (default : T115)).f0).length : Int) r45).sl) (e := .normal) (t := I0 f6 fuel7 v8 v9 v10 r45.1 r45.2.1 r45.2.2.1 r45.2.2.2.1 (w64 (n15 + 1)) (1 : Int) r48) (l := [(0, 0), (1, 1), (2, 2), (3, 3), (4, 4), (5, 5), (6, 6), (7, 7), (8, 8)])
            (hs := [hA, .g (.env 50 (C.v (vB false))), .h (.idv j20 (eT115.f (f6.getD j20 (default : T115)) ++ (cs eT115 (f6.drop (j20 + 1))))), hA, .call ⟨[.ro, .ro], 9, [(8, (cs eJ r45.2.2.2.1), (cs eJ r45.2.2.2.1))], false, [], (vI .i64 r48), [], 9⟩, hA, .skip, .g (.env 58 (C.v (vB true)))])
            (ps := [C.v (vB (!decide (r45.2.2.2.2 = 0))) = C.v (vB false), at17 = (j20 : Int), j20 < f6.length, (cs eT115 f6).drop (j20 * 4) = (eT115.f (f6.getD j20 (default : T115)) ++ (cs eT115 (f6.drop (j20 + 1)))), cs eT115 f6 ≠ [], CallOK Try.prog 153 [.ro (.ag [(vS eT131 ((f6.getD j20 (default : T115)).f0)), (vI .i64 ((f6.getD j20 (default : T115)).f1)), (vI .i64 ((f6.getD j20 (default : T115)).f2)), (vS eJ ((f6.getD j20 (default : T115)).f3))]), .ro (.sl 1 r45.2.2.2.1.length (cs eJ r45.2.2.2.1))] [] (vI .i64 r48), (own (cs eJ r45.2.2.2.1)) = (cs eJ r45.2.2.2.1).map C.own, 0 + r45.2.2.2.1.length * 1 ≤ (cs eJ r45.2.2.2.1).length, ((cs eJ r45.2.2.2.1).drop (0)).take (r45.2.2.2.1.length * 1) = (cs eJ r45.2.2.2.1), (noImL [] && noIm (vI .i64 r48)) = true, C.v (vB (decide (r48 = (-1)))) = C.v (vB true), ((vS eT115 f6) : V) = (vS eT115 f6), (fuel7 : Int) = fuel7, 0 = 0, 0 = 0, 0 = 0, r45.2.2.2.1.length = r45.2.2.2.1.length, (w64 (n15 + 1) : Int) = (w64 (n15 + 1)), (1 : Int) = (1 : Int), (r48 : Int) = r48, (own (cs eJ v8)) = (cs eJ v8).map C.own, (own (cs eJ v9)) = (cs eJ v9).map C.own, (own (cs eJ v10)) = (cs eJ v10).map C.own, (own (cs eJ r45.1)) = (cs eJ r45.1).map C.own, (own (cs eJ r45.2.1)) = (cs eJ r45.2.1).map C.own, (own (cs eJ r45.2.2.1)) = (cs eJ r45.2.2.1).map C.own, (own (cs eJ r45.2.2.2.1)) = (cs eJ r45.2.2.2.1).map C.own, 0 = 0, v8.length = v8.length, 0 = 0, v9.length = v9.length, 0 = 0, v10.length = v10.length, 0 = 0, r45.1.length = r45.1.length, 0 = 0, r45.2.1.length = r45.2.1.length, 0 = 0, r45.2.2.1.length = r45.2.2.1.length])
            (by kernel_rfl) ⟨vbB h47, (idx_S h21).1, (idx_S h21).2, cs_from (e := eT115) (d := (default : T115)) (idx_S h21).2, cs_ne (e := eT115) (idx_S h21).2 (by decide), F153.fn_c fuel (f6.getD j20 (default : T115)) r45.2.2.2.1 _ h49, rfl, len_all (e := eJ) (rfl), take_cs (e := eJ) (rfl), by simp [noIm, noImL, noImL_cs, NI.noim], vbB h50, rfl, rfl, rfl, rfl, rfl, rfl, rfl, rfl, rfl, rfl, rfl, rfl, rfl, rfl, rfl, rfl, rfl, rfl, rfl, rfl, rfl, rfl, rfl, rfl, rfl, rfl, rfl, rfl, trivial⟩ (fun st hl => ⟨n, _, Nat.lt_succ_self n, hl, (r45.1, r45.2.1, r45.2.2.1, r45.2.2.2.1, w64 (n15 + 1), (1 : Int), r48), rfl, rfl, h⟩)
        · 
          rcases cond_cases h with ⟨h51, h⟩ | ⟨h51, h⟩
          · 
            exact runAt_S (Q := Round _ (n + 1) _) (n := 100000) (c := (.out (.exit 2))) (K := K1) (s := (J1_0 f6 fuel7 v8 v9 v10 (w64 (n15 + 1)) at17 ((f6.getD j20 (default : T115)).f0) (((f6.getD j20 (default : T115)).f0).length : Int) r45).sl) (e := .normal) (t := I0 f6 fuel7 v8 v9 v10 r45.1 r45.2.1 r45.2.2.1 r45.2.2.2.1 (w64 (n15 + 1)) (2 : Int) r48) (l := [(0, 0), (1, 1), (2, 2), (3, 3), (4, 4), (5, 5), (6, 6), (7, 7), (8, 8)])
              (hs := [hA, .g (.env 50 (C.v (vB false))), .h (.idv j20 (eT115.f (f6.getD j20 (default : T115)) ++ (cs eT115 (f6.drop (j20 + 1))))), hA, .call ⟨[.ro, .ro], 9, [(8, (cs eJ r45.2.2.2.1), (cs eJ r45.2.2.2.1))], false, [], (vI .i64 r48), [], 9⟩, hA, .skip, .g (.env 58 (C.v (vB false))), hA, .skip, .g (.env 60 (C.v (vB true)))])
              (ps := [C.v (vB (!decide (r45.2.2.2.2 = 0))) = C.v (vB false), at17 = (j20 : Int), j20 < f6.length, (cs eT115 f6).drop (j20 * 4) = (eT115.f (f6.getD j20 (default : T115)) ++ (cs eT115 (f6.drop (j20 + 1)))), cs eT115 f6 ≠ [], CallOK Try.prog 153 [.ro (.ag [(vS eT131 ((f6.getD j20 (default : T115)).f0)), (vI .i64 ((f6.getD j20 (default : T115)).f1)), (vI .i64 ((f6.getD j20 (default : T115)).f2)), (vS eJ ((f6.getD j20 (default : T115)).f3))]), .ro (.sl 1 r45.2.2.2.1.length (cs eJ r45.2.2.2.1))] [] (vI .i64 r48), (own (cs eJ r45.2.2.2.1)) = (cs eJ r45.2.2.2.1).map C.own, 0 + r45.2.2.2.1.length * 1 ≤ (cs eJ r45.2.2.2.1).length, ((cs eJ r45.2.2.2.1).drop (0)).take (r45.2.2.2.1.length * 1) = (cs eJ r45.2.2.2.1), (noImL [] && noIm (vI .i64 r48)) = true, C.v (vB (decide (r48 = (-1)))) = C.v (vB false), C.v (vB (decide (r48 = (-2)))) = C.v (vB true), ((vS eT115 f6) : V) = (vS eT115 f6), (fuel7 : Int) = fuel7, 0 = 0, 0 = 0, 0 = 0, r45.2.2.2.1.length = r45.2.2.2.1.length, (w64 (n15 + 1) : Int) = (w64 (n15 + 1)), (2 : Int) = (2 : Int), (r48 : Int) = r48, (own (cs eJ v8)) = (cs eJ v8).map C.own, (own (cs eJ v9)) = (cs eJ v9).map C.own, (own (cs eJ v10)) = (cs eJ v10).map C.own, (own (cs eJ r45.1)) = (cs eJ r45.1).map C.own, (own (cs eJ r45.2.1)) = (cs eJ r45.2.1).map C.own, (own (cs eJ r45.2.2.1)) = (cs eJ r45.2.2.1).map C.own, (own (cs eJ r45.2.2.2.1)) = (cs eJ r45.2.2.2.1).map C.own, 0 = 0, v8.length = v8.length, 0 = 0, v9.length = v9.length, 0 = 0, v10.length = v10.length, 0 = 0, r45.1.length = r45.1.length, 0 = 0, r45.2.1.length = r45.2.1.length, 0 = 0, r45.2.2.1.length = r45.2.2.1.length])
              (by kernel_rfl) ⟨vbB h47, (idx_S h21).1, (idx_S h21).2, cs_from (e := eT115) (d := (default : T115)) (idx_S h21).2, cs_ne (e := eT115) (idx_S h21).2 (by decide), F153.fn_c fuel (f6.getD j20 (default : T115)) r45.2.2.2.1 _ h49, rfl, len_all (e := eJ) (rfl), take_cs (e := eJ) (rfl), by simp [noIm, noImL, noImL_cs, NI.noim], vbB h50, vbB h51, rfl, rfl, rfl, rfl, rfl, rfl, rfl, rfl, rfl, rfl, rfl, rfl, rfl, rfl, rfl, rfl, rfl, rfl, rfl, rfl, rfl, rfl, rfl, rfl, rfl, rfl, rfl, rfl, trivial⟩ (fun st hl => ⟨n, _, Nat.lt_succ_self n, hl, (r45.1, r45.2.1, r45.2.2.1, r45.2.2.2.1, w64 (n15 + 1), (2 : Int), r48), rfl, rfl, h⟩)
          · 
            exact runAt_S (Q := Round _ (n + 1) _) (n := 100000) (c := (.out (.exit 2))) (K := K1) (s := (J1_0 f6 fuel7 v8 v9 v10 (w64 (n15 + 1)) at17 ((f6.getD j20 (default : T115)).f0) (((f6.getD j20 (default : T115)).f0).length : Int) r45).sl) (e := .normal) (t := I0 f6 fuel7 v8 v9 v10 r45.1 r45.2.1 r45.2.2.1 r45.2.2.2.1 (w64 (n15 + 1)) r45.2.2.2.2 r48) (l := [(0, 0), (1, 1), (2, 2), (3, 3), (4, 4), (5, 5), (6, 6), (7, 7), (8, 8)])
              (hs := [hA, .g (.env 50 (C.v (vB false))), .h (.idv j20 (eT115.f (f6.getD j20 (default : T115)) ++ (cs eT115 (f6.drop (j20 + 1))))), hA, .call ⟨[.ro, .ro], 9, [(8, (cs eJ r45.2.2.2.1), (cs eJ r45.2.2.2.1))], false, [], (vI .i64 r48), [], 9⟩, hA, .skip, .g (.env 58 (C.v (vB false))), hA, .skip, .g (.env 60 (C.v (vB false)))])
              (ps := [C.v (vB (!decide (r45.2.2.2.2 = 0))) = C.v (vB false), at17 = (j20 : Int), j20 < f6.length, (cs eT115 f6).drop (j20 * 4) = (eT115.f (f6.getD j20 (default : T115)) ++ (cs eT115 (f6.drop (j20 + 1)))), cs eT115 f6 ≠ [], CallOK Try.prog 153 [.ro (.ag [(vS eT131 ((f6.getD j20 (default : T115)).f0)), (vI .i64 ((f6.getD j20 (default : T115)).f1)), (vI .i64 ((f6.getD j20 (default : T115)).f2)), (vS eJ ((f6.getD j20 (default : T115)).f3))]), .ro (.sl 1 r45.2.2.2.1.length (cs eJ r45.2.2.2.1))] [] (vI .i64 r48), (own (cs eJ r45.2.2.2.1)) = (cs eJ r45.2.2.2.1).map C.own, 0 + r45.2.2.2.1.length * 1 ≤ (cs eJ r45.2.2.2.1).length, ((cs eJ r45.2.2.2.1).drop (0)).take (r45.2.2.2.1.length * 1) = (cs eJ r45.2.2.2.1), (noImL [] && noIm (vI .i64 r48)) = true, C.v (vB (decide (r48 = (-1)))) = C.v (vB false), C.v (vB (decide (r48 = (-2)))) = C.v (vB false), ((vS eT115 f6) : V) = (vS eT115 f6), (fuel7 : Int) = fuel7, 0 = 0, 0 = 0, 0 = 0, r45.2.2.2.1.length = r45.2.2.2.1.length, (w64 (n15 + 1) : Int) = (w64 (n15 + 1)), (r45.2.2.2.2 : Int) = r45.2.2.2.2, (r48 : Int) = r48, (own (cs eJ v8)) = (cs eJ v8).map C.own, (own (cs eJ v9)) = (cs eJ v9).map C.own, (own (cs eJ v10)) = (cs eJ v10).map C.own, (own (cs eJ r45.1)) = (cs eJ r45.1).map C.own, (own (cs eJ r45.2.1)) = (cs eJ r45.2.1).map C.own, (own (cs eJ r45.2.2.1)) = (cs eJ r45.2.2.1).map C.own, (own (cs eJ r45.2.2.2.1)) = (cs eJ r45.2.2.2.1).map C.own, 0 = 0, v8.length = v8.length, 0 = 0, v9.length = v9.length, 0 = 0, v10.length = v10.length, 0 = 0, r45.1.length = r45.1.length, 0 = 0, r45.2.1.length = r45.2.1.length, 0 = 0, r45.2.2.1.length = r45.2.2.1.length])
              (by kernel_rfl) ⟨vbB h47, (idx_S h21).1, (idx_S h21).2, cs_from (e := eT115) (d := (default : T115)) (idx_S h21).2, cs_ne (e := eT115) (idx_S h21).2 (by decide), F153.fn_c fuel (f6.getD j20 (default : T115)) r45.2.2.2.1 _ h49, rfl, len_all (e := eJ) (rfl), take_cs (e := eJ) (rfl), by simp [noIm, noImL, noImL_cs, NI.noim], vbB h50, vbB h51, rfl, rfl, rfl, rfl, rfl, rfl, rfl, rfl, rfl, rfl, rfl, rfl, rfl, rfl, rfl, rfl, rfl, rfl, rfl, rfl, rfl, rfl, rfl, rfl, rfl, rfl, rfl, rfl, trivial⟩ (fun st hl => ⟨n, _, Nat.lt_succ_self n, hl, (r45.1, r45.2.1, r45.2.2.1, r45.2.2.2.1, w64 (n15 + 1), r45.2.2.2.2, r48), rfl, rfl, h⟩)
  · 
    obtain rfl := Option.some.inj h
    exact runAt_S (Q := Round _ (n + 1) _) (n := 100000) (c := (.code L0)) (K := []) (s := (I0 f6 fuel7 v8 v9 v10 out11 out12 out13 vars14 n15 end16 at17).sl) (e := (.exit 0)) (t := J0_0 f6 fuel7 v8 v9 v10 (out11, out12, out13, vars14, n15, end16)) (l := [(0, 0), (1, 1), (2, 2), (3, 3), (4, 4), (5, 5), (6, 6), (7, 7), (8, 8)])
      (hs := [hA, .g (.env 24 (C.v (vB false)))])
      (ps := [C.v (vB (decide (end16 = 0))) = C.v (vB false), 0 = 0, 0 = 0, 0 = 0, vars14.length = vars14.length, (n15 : Int) = n15, (end16 : Int) = end16, (own (cs eJ v8)) = (cs eJ v8).map C.own, (own (cs eJ v9)) = (cs eJ v9).map C.own, (own (cs eJ v10)) = (cs eJ v10).map C.own, (own (cs eJ out11)) = (cs eJ out11).map C.own, (own (cs eJ out12)) = (cs eJ out12).map C.own, (own (cs eJ out13)) = (cs eJ out13).map C.own, (own (cs eJ vars14)) = (cs eJ vars14).map C.own, 0 = 0, v8.length = v8.length, 0 = 0, v9.length = v9.length, 0 = 0, v10.length = v10.length, 0 = 0, out11.length = out11.length, 0 = 0, out12.length = out12.length, 0 = 0, out13.length = out13.length])
      (by kernel_rfl) ⟨vbB h18, rfl, rfl, rfl, rfl, rfl, rfl, rfl, rfl, rfl, rfl, rfl, rfl, rfl, rfl, rfl, rfl, rfl, rfl, rfl, rfl, rfl, rfl, rfl, rfl, rfl, trivial⟩ (fun st hl => ⟨rfl, hl⟩)
def fn (fuel : Nat) (f0 : List T115) (s1 : T44) (fuel2 : Int) : Option (T44 × Int × Int) :=
  (F94.fn fuel s1).bind fun r1 =>
  (chk ((0 + s1.f0.length) * 8 ≤ 140737488355328)).bind fun _ =>
  (chk (4 * 8 ≤ 281474976710656)).bind fun _ =>
  (chk ((0 + s1.f0.length + 4) * 8 ≤ 140737488355328)).bind fun _ =>
  (p0 fuel f0 fuel2 ([] : List Int) ([] : List Int) ([] : List Int) fuel r1.f0 r1.f1 r1.f2 ((([] : List Int) ++ s1.f0) ++ List.replicate 4 (0 : Int)) (0 : Int) (0 : Int) (0 : Int)).bind fun r52 =>
  (chk (8 ≤ r52.2.2.2.1.length)).bind fun _ =>
  (chk ((0 + (8 - 0)) * 8 ≤ 140737488355328)).bind fun _ =>
  some ((⟨([] : List Int) ++ (r52.2.2.2.1.take 8), r52.2.1, r52.2.2.1⟩ : T44), r52.2.2.2.2.2, r52.2.2.2.2.1)
theorem ent : enterable Try.prog 93 = true := by kernel_rfl
theorem fn_c (fuel : Nat) (f0 : List T115) (s1 : T44) (fuel2 : Int) (r : T44 × Int × Int) (h : fn fuel f0 s1 fuel2 = some r) : CallOK Try.prog 93 [.ro (vS eT115 f0), .ro (.ag (eT44.f s1)), .ro (vI .i64 fuel2)] [] (.tp [(.ag (eT44.f r.1)), (vI .i64 r.2.1), (vI .i64 r.2.2)]) := by
  refine contract_run Try.func93 (b := bod Try.f93) rfl ent ?_
  unfold fn at h
  obtain ⟨r1, h2, h⟩ := bind_cases h
  obtain ⟨_, h3, h⟩ := bind_cases h
  obtain ⟨_, h4, h⟩ := bind_cases h
  obtain ⟨_, h5, h⟩ := bind_cases h
  obtain ⟨r52, h53, h⟩ := bind_cases h
  refine runTo_S (n := 100000) (c := (.code (bod Try.f93))) (K := []) (b := (.code (.loop L0))) (K1 := K0) (t := I0 f0 fuel2 ([] : List Int) ([] : List Int) ([] : List Int) r1.f0 r1.f1 r1.f2 ((([] : List Int) ++ s1.f0) ++ List.replicate 4 (0 : Int)) (0 : Int) (0 : Int) (0 : Int)) (l := [(0, 1), (1, 9), (2, 10), (3, 11), (4, 5), (5, 2), (6, 3), (7, 4), (8, 8)])
    (hs := [.h (.new 0), .h (.new 1), hA, .call ⟨[.ro], 9, [], true, [], (.ag (eT44.f r1)), [], 2⟩, .h (.new 5), hA, .h (.new 6), hA, .h (.apd 7 ((cs eJ s1.f0).map C.v) (own (cs eJ (([] : List Int) ++ s1.f0)))), .h (.apz 8 4 (own (cs eJ ((([] : List Int) ++ s1.f0) ++ List.replicate 4 (0 : Int))))), .skip, .skip, .skip, .skip, .g (.nilC 1 0 1), .g (.opn 1 0 9), .g (.nilC 1 1 1), .g (.opn 1 1 10), .g (.nilC 1 2 1), .g (.opn 1 2 11)])
    (ps := [CallOK Try.prog 94 [.ro (.ag [(vS eJ s1.f0), (vS eJ s1.f1), (vS eJ s1.f2)])] [] (.ag (eT44.f r1)), (cs eJ s1.f0).length = s1.f0.length * 1, (cs eJ s1.f0).map C.v = ((cs eJ s1.f0).map C.v), ((cs eJ s1.f0).map C.v).all oneC = true, 0 + 0 * 1 ≤ (own (cs eJ ([] : List Int))).length, (0 + s1.f0.length) * 8 ≤ 140737488355328, ((own (cs eJ ([] : List Int))).drop 0).take (0 * 1) ++ (((cs eJ s1.f0).map C.v).map toCell) = (own (cs eJ (([] : List Int) ++ s1.f0))), 4 = (4 : Int), 4 ≤ 281474976710656, 4 * 8 ≤ 281474976710656, 0 + (0 + s1.f0.length) * 1 ≤ (own (cs eJ (([] : List Int) ++ s1.f0))).length, (0 + s1.f0.length + 4) * 8 ≤ 140737488355328, ((own (cs eJ (([] : List Int) ++ s1.f0))).drop 0).take ((0 + s1.f0.length) * 1) ++ (List.replicate 4 (([Value.int .i64 0] : List Value).map fun z => C.own (.sc z))).flatten = (own (cs eJ ((([] : List Int) ++ s1.f0) ++ List.replicate 4 (0 : Int)))), ((vS eT115 f0) : V) = (vS eT115 f0), (fuel2 : Int) = fuel2, 0 = 0, 0 = 0, 0 = 0, 0 + s1.f0.length + 4 = ((([] : List Int) ++ s1.f0) ++ List.replicate 4 (0 : Int)).length, (0 : Int) = (0 : Int), (0 : Int) = (0 : Int), (0 : Int) = (0 : Int), (own (cs eJ ([] : List Int))) = (cs eJ ([] : List Int)).map C.own, (own (cs eJ ([] : List Int))) = (cs eJ ([] : List Int)).map C.own, (own (cs eJ ([] : List Int))) = (cs eJ ([] : List Int)).map C.own, (own (cs eJ r1.f0)) = (cs eJ r1.f0).map C.own, (own (cs eJ r1.f1)) = (cs eJ r1.f1).map C.own, (own (cs eJ r1.f2)) = (cs eJ r1.f2).map C.own, (own (cs eJ ((([] : List Int) ++ s1.f0) ++ List.replicate 4 (0 : Int)))) = (cs eJ ((([] : List Int) ++ s1.f0) ++ List.replicate 4 (0 : Int))).map C.own, 0 = 0, 0 = ([] : List Int).length, 0 = 0, 0 = ([] : List Int).length, 0 = 0, 0 = ([] : List Int).length, 0 = 0, r1.f0.length = r1.f0.length, 0 = 0, r1.f1.length = r1.f1.length, 0 = 0, r1.f2.length = r1.f2.length])
    (by kernel_rfl) ⟨F94.fn_c fuel s1 _ h2, cs_length, rfl, all_one, own_len (e := eJ) (rfl), (chk_S h3), own_app (e := eJ) (rfl) toCell_cs, rfl, by have := (chk_S h4); omega, (chk_S h4), own_len (e := eJ) (app_ln (rfl) (rfl)), (chk_S h5), own_app (e := eJ) (app_ln (rfl) (rfl)) (repl_cs (e := eJ) rfl), rfl, rfl, rfl, rfl, rfl, app_ln (app_ln (rfl) (rfl)) (by simp), rfl, rfl, rfl, rfl, rfl, rfl, rfl, rfl, rfl, rfl, rfl, rfl, rfl, rfl, rfl, rfl, rfl, rfl, rfl, rfl, rfl, rfl, trivial⟩ (cut_code ?_)
  refine TW.mono_le (p0_c fuel f0 fuel2 ([] : List Int) ([] : List Int) ([] : List Int) fuel r1.f0 r1.f1 r1.f2 ((([] : List Int) ++ s1.f0) ++ List.replicate 4 (0 : Int)) (0 : Int) (0 : Int) (0 : Int) _ h53) ?_
  rintro e st hq
  obtain ⟨rfl, hl⟩ := hq
  refine ⟨_, hl, ?_⟩
  obtain ⟨_, h54, h⟩ := bind_cases h
  obtain ⟨_, h55, h⟩ := bind_cases h
  obtain rfl := Option.some.inj h
  exact runRet_S (r := ⟨Try.f93.results.toList, _, _, _, [(10, (cs eJ (([] : List Int) ++ (r52.2.2.2.1.take 8))), (cs eJ (([] : List Int) ++ (r52.2.2.2.1.take 8)))), (6, (cs eJ r52.2.1), (cs eJ r52.2.1)), (7, (cs eJ r52.2.2.1), (cs eJ r52.2.2.1))], 9⟩) (n := 100000) (c := (.out (.exit 0))) (K := K0) (s := (J0_0 f0 fuel2 ([] : List Int) ([] : List Int) ([] : List Int) r52).sl)
    (hs := [.h (.new 9), .h (.sl 0 8 false), .h (.apd 10 ((cs eJ (r52.2.2.2.1.take 8)).map C.v) (own (cs eJ (([] : List Int) ++ (r52.2.2.2.1.take 8))))), hA, hA, hA])
    (ps := [(0 : Int) = ((0 : Nat) : Int), (8 : Int) = ((8 : Nat) : Int), 0 ≤ 8, 8 ≤ r52.2.2.2.1.length, 0 + 0 * 1 + (8 - 0) * 1 ≤ (own (cs eJ r52.2.2.2.1)).length, readL (((own (cs eJ r52.2.2.2.1)).drop (0 + 0 * 1)).take ((8 - 0) * 1)) = some ((cs eJ (r52.2.2.2.1.take 8)).map C.v), ((cs eJ (r52.2.2.2.1.take 8)).map C.v).all oneC = true, 0 + 0 * 1 ≤ (own (cs eJ ([] : List Int))).length, (0 + (8 - 0)) * 8 ≤ 140737488355328, ((own (cs eJ ([] : List Int))).drop 0).take (0 * 1) ++ (((cs eJ (r52.2.2.2.1.take 8)).map C.v).map toCell) = (own (cs eJ (([] : List Int) ++ (r52.2.2.2.1.take 8)))), (own (cs eJ (([] : List Int) ++ (r52.2.2.2.1.take 8)))) = (cs eJ (([] : List Int) ++ (r52.2.2.2.1.take 8))).map C.own, 0 + (0 + (8 - 0)) * 1 ≤ (cs eJ (([] : List Int) ++ (r52.2.2.2.1.take 8))).length, ((cs eJ (([] : List Int) ++ (r52.2.2.2.1.take 8))).drop (0)).take ((0 + (8 - 0)) * 1) = (cs eJ (([] : List Int) ++ (r52.2.2.2.1.take 8))), (own (cs eJ r52.2.1)) = (cs eJ r52.2.1).map C.own, 0 + r52.2.1.length * 1 ≤ (cs eJ r52.2.1).length, ((cs eJ r52.2.1).drop (0)).take (r52.2.1.length * 1) = (cs eJ r52.2.1), (own (cs eJ r52.2.2.1)) = (cs eJ r52.2.2.1).map C.own, 0 + r52.2.2.1.length * 1 ≤ (cs eJ r52.2.2.1).length, ((cs eJ r52.2.2.1).drop (0)).take (r52.2.2.1.length * 1) = (cs eJ r52.2.2.1), (V.tp [(.ag [(.sl 1 (0 + (8 - 0)) (cs eJ (([] : List Int) ++ (r52.2.2.2.1.take 8)))), (.sl 1 r52.2.1.length (cs eJ r52.2.1)), (.sl 1 r52.2.2.1.length (cs eJ r52.2.2.1))]), (vI .i64 r52.2.2.2.2.2), (vI .i64 r52.2.2.2.2.1)]) = V.tp [(.ag (eT44.f (⟨([] : List Int) ++ (r52.2.2.2.1.take 8), r52.2.1, r52.2.2.1⟩ : T44))), (vI .i64 r52.2.2.2.2.2), (vI .i64 r52.2.2.2.2.1)]])
    (by kernel_rfl) ⟨rfl, rfl, (Nat.zero_le _), (chk_S h54), by rw [own_length]; exact sub_len (e := eJ) (rfl) (Nat.zero_le _) (chk_S h54), readL_cs (sub_take_hi (e := eJ) (rfl) (Nat.zero_le _) (chk_S h54)), all_one, own_len (e := eJ) (rfl), (chk_S h55), own_app (e := eJ) (rfl) toCell_cs, rfl, len_all (e := eJ) (app_ln (rfl) (sub_ln_hi (rfl) (Nat.zero_le _) (chk_S h54))), take_cs (e := eJ) (app_ln (rfl) (sub_ln_hi (rfl) (Nat.zero_le _) (chk_S h54))), rfl, len_all (e := eJ) (rfl), take_cs (e := eJ) (rfl), rfl, len_all (e := eJ) (rfl), take_cs (e := eJ) (rfl), (by rw [show 0 + (8 - 0) = (([] : List Int) ++ (r52.2.2.2.1.take 8)).length from (app_ln (rfl) (sub_ln_hi (rfl) (Nat.zero_le _) (chk_S h54)))]; try rfl), trivial⟩ rfl (fun _ _ h => h)
end F93
namespace F29
/-! spec.RunFlow -/
noncomputable def K0 := (subC [1, 0, 0] (bod Try.f29) []).2
noncomputable def B0 := (subC [1, 0, 0] (bod Try.f29) []).1
def I0 (f1 : List T115) (fuel2 : Int) (s3 : List Int) (s4 : List Int) (s5 : List Int) (v6 : List Int) : TL := ⟨39, [C.dead, C.dead, C.dead], [(0, C.v (vS eT115 f1)), (2, C.v (vI .i64 fuel2)), (4, C.pr 0 0), (6, C.pr 1 0)], [(2, (cs eJ v6)), (3, (cs eJ v6)), (4, (cs eJ v6))], [(0, [C.v (vS eJ s3), C.v (vS eJ s4), C.v (vS eJ s5)]), (1, [C.sr 2 0 1 v6.length, C.sr 3 0 1 v6.length, C.sr 4 0 1 v6.length])]⟩
def J0_0 (f1 : List T115) (fuel2 : Int) (s3 : List Int) (s4 : List Int) (s5 : List Int) (v6 : List Int) (o : Bool) : TL := ⟨39, [C.dead, C.dead, C.dead], [(0, C.v (vS eT115 f1)), (2, C.v (vI .i64 fuel2)), (4, C.pr 0 0), (6, C.pr 1 0), (25, C.v (vB o))], [(2, (cs eJ v6)), (3, (cs eJ v6)), (4, (cs eJ v6))], [(0, [C.v (vS eJ s3), C.v (vS eJ s4), C.v (vS eJ s5)]), (1, [C.sr 2 0 1 v6.length, C.sr 3 0 1 v6.length, C.sr 4 0 1 v6.length])]⟩
def Q0 (f1 : List T115) (fuel2 : Int) (s3 : List Int) (s4 : List Int) (s5 : List Int) (v6 : List Int) (r : Bool) (e : Exit) (st : St) : Prop := (fun o => e = .normal ∧ Le st (J0_0 f1 fuel2 s3 s4 s5 v6 o).sl.st) r
def p0 (fuel : Nat) (f1 : List T115) (fuel2 : Int) (s3 : List Int) (s4 : List Int) (s5 : List Int) (v6 : List Int) : Option Bool :=
  (F91.fn fuel f1).bind fun r7 =>
  cond (!r7)
  (some true)
  ((F71.fn fuel (⟨s3, s4, s5⟩ : T44)).bind fun r10 =>
    cond (!r10)
    (some true)
    ((F92.fn fuel fuel2).bind fun r13 =>
      some (!r13)))
theorem p0_c (fuel : Nat) (f1 : List T115) (fuel2 : Int) (s3 : List Int) (s4 : List Int) (s5 : List Int) (v6 : List Int) (r : Bool) (h : p0 fuel f1 fuel2 s3 s4 s5 v6 = some r) : TW Try.prog B0 (I0 f1 fuel2 s3 s4 s5 v6).sl.st (Q0 f1 fuel2 s3 s4 s5 v6 r) := by
  unfold p0 at h
  obtain ⟨r7, h8, h⟩ := bind_cases h
  rcases cond_cases h with ⟨h9, h⟩ | ⟨h9, h⟩
  · 
    obtain rfl := Option.some.inj h
    exact runAt_S (Q := Q0 f1 fuel2 s3 s4 s5 v6 _) (n := 100000) (c := (.code B0)) (K := []) (s := (I0 f1 fuel2 s3 s4 s5 v6).sl) (e := .normal) (t := J0_0 f1 fuel2 s3 s4 s5 v6 true) (l := [(0, 0), (1, 1), (2, 2), (3, 3), (4, 4)])
      (hs := [.call ⟨[.ro], 9, [], true, [], (vB r7), [], 5⟩, hA, .skip, .g (.env 16 (C.v (vB true)))])
      (ps := [CallOK Try.prog 91 [.ro (vS eT115 f1)] [] (vB r7), C.v (vB (!r7)) = C.v (vB true), ((vS eT115 f1) : V) = (vS eT115 f1), (fuel2 : Int) = fuel2, 0 = 0, 0 = 0, (true : Bool) = true, (own (cs eJ v6)) = (cs eJ v6).map C.own, (own (cs eJ v6)) = (cs eJ v6).map C.own, (own (cs eJ v6)) = (cs eJ v6).map C.own, ((vS eJ s3) : V) = (vS eJ s3), ((vS eJ s4) : V) = (vS eJ s4), ((vS eJ s5) : V) = (vS eJ s5), 0 = 0, v6.length = v6.length, 0 = 0, v6.length = v6.length, 0 = 0, v6.length = v6.length])
      (by kernel_rfl) ⟨F91.fn_c fuel f1 _ h8, vbB h9, rfl, rfl, rfl, rfl, rfl, rfl, rfl, rfl, rfl, rfl, rfl, rfl, rfl, rfl, rfl, rfl, rfl, trivial⟩ (fun st hl => ⟨rfl, hl⟩)
  · 
    obtain ⟨r10, h11, h⟩ := bind_cases h
    rcases cond_cases h with ⟨h12, h⟩ | ⟨h12, h⟩
    · 
      obtain rfl := Option.some.inj h
      exact runAt_S (Q := Q0 f1 fuel2 s3 s4 s5 v6 _) (n := 100000) (c := (.code B0)) (K := []) (s := (I0 f1 fuel2 s3 s4 s5 v6).sl) (e := .normal) (t := J0_0 f1 fuel2 s3 s4 s5 v6 true) (l := [(0, 0), (1, 1), (2, 2), (3, 3), (4, 4)])
        (hs := [.call ⟨[.ro], 9, [], true, [], (vB r7), [], 5⟩, hA, .skip, .g (.env 16 (C.v (vB false))), hA, .call ⟨[.ro], 9, [], true, [], (vB r10), [], 5⟩, hA, .skip, .skip, .g (.env 21 (C.v (vB true)))])
        (ps := [CallOK Try.prog 91 [.ro (vS eT115 f1)] [] (vB r7), C.v (vB (!r7)) = C.v (vB false), CallOK Try.prog 71 [.ro (.ag [(vS eJ s3), (vS eJ s4), (vS eJ s5)])] [] (vB r10), C.v (vB (!r10)) = C.v (vB true), ((vS eT115 f1) : V) = (vS eT115 f1), (fuel2 : Int) = fuel2, 0 = 0, 0 = 0, (true : Bool) = true, (own (cs eJ v6)) = (cs eJ v6).map C.own, (own (cs eJ v6)) = (cs eJ v6).map C.own, (own (cs eJ v6)) = (cs eJ v6).map C.own, ((vS eJ s3) : V) = (vS eJ s3), ((vS eJ s4) : V) = (vS eJ s4), ((vS eJ s5) : V) = (vS eJ s5), 0 = 0, v6.length = v6.length, 0 = 0, v6.length = v6.length, 0 = 0, v6.length = v6.length])
        (by kernel_rfl) ⟨F91.fn_c fuel f1 _ h8, vbB h9, F71.fn_c fuel (⟨s3, s4, s5⟩ : T44) _ h11, vbB h12, rfl, rfl, rfl, rfl, rfl, rfl, rfl, rfl, rfl, rfl, rfl, rfl, rfl, rfl, rfl, rfl, rfl, trivial⟩ (fun st hl => ⟨rfl, hl⟩)
    · 
      obtain ⟨r13, h14, h⟩ := bind_cases h
      obtain rfl := Option.some.inj h
      exact runAt_S (Q := Q0 f1 fuel2 s3 s4 s5 v6 _) (n := 100000) (c := (.code B0)) (K := []) (s := (I0 f1 fuel2 s3 s4 s5 v6).sl) (e := .normal) (t := J0_0 f1 fuel2 s3 s4 s5 v6 (!r13)) (l := [(0, 0), (1, 1), (2, 2), (3, 3), (4, 4)])
        (hs := [.call ⟨[.ro], 9, [], true, [], (vB r7), [], 5⟩, hA, .skip, .g (.env 16 (C.v (vB false))), hA, .call ⟨[.ro], 9, [], true, [], (vB r10), [], 5⟩, hA, .skip, .skip, .g (.env 21 (C.v (vB false))), .call ⟨[.ro], 9, [], true, [], (vB r13), [], 5⟩, hA])
        (ps := [CallOK Try.prog 91 [.ro (vS eT115 f1)] [] (vB r7), C.v (vB (!r7)) = C.v (vB false), CallOK Try.prog 71 [.ro (.ag [(vS eJ s3), (vS eJ s4), (vS eJ s5)])] [] (vB r10), C.v (vB (!r10)) = C.v (vB false), CallOK Try.prog 92 [.ro (vI .i64 fuel2)] [] (vB r13), ((vS eT115 f1) : V) = (vS eT115 f1), (fuel2 : Int) = fuel2, 0 = 0, 0 = 0, (!r13 : Bool) = (!r13), (own (cs eJ v6)) = (cs eJ v6).map C.own, (own (cs eJ v6)) = (cs eJ v6).map C.own, (own (cs eJ v6)) = (cs eJ v6).map C.own, ((vS eJ s3) : V) = (vS eJ s3), ((vS eJ s4) : V) = (vS eJ s4), ((vS eJ s5) : V) = (vS eJ s5), 0 = 0, v6.length = v6.length, 0 = 0, v6.length = v6.length, 0 = 0, v6.length = v6.length])
        (by kernel_rfl) ⟨F91.fn_c fuel f1 _ h8, vbB h9, F71.fn_c fuel (⟨s3, s4, s5⟩ : T44) _ h11, vbB h12, F92.fn_c fuel fuel2 _ h14, rfl, rfl, rfl, rfl, rfl, rfl, rfl, rfl, rfl, rfl, rfl, rfl, rfl, rfl, rfl, rfl, rfl, trivial⟩ (fun st hl => ⟨rfl, hl⟩)
def fn (fuel : Nat) (f0 : List T115) (s1 : T44) (fuel2 : Int) : Option (T44 × Int × Int × Bool) :=
  (p0 fuel f0 fuel2 s1.f0 s1.f1 s1.f2 ([] : List Int)).bind fun r15 =>
  cond (r15)
  (some ((⟨([] : List Int), ([] : List Int), ([] : List Int)⟩ : T44), 0, 0, false))
  ((F93.fn fuel f0 s1 fuel2).bind fun r18 =>
    (F94.fn fuel r18.1).bind fun r20 =>
    some (r20, r18.2.1, r18.2.2, true))
theorem ent : enterable Try.prog 29 = true := by kernel_rfl
theorem fn_c (fuel : Nat) (f0 : List T115) (s1 : T44) (fuel2 : Int) (r : T44 × Int × Int × Bool) (h : fn fuel f0 s1 fuel2 = some r) : CallOK Try.prog 29 [.ro (vS eT115 f0), .ro (.ag (eT44.f s1)), .ro (vI .i64 fuel2)] [] (.tp [(.ag (eT44.f r.1)), (vI .i64 r.2.1), (vI .i64 r.2.2.1), (vB r.2.2.2)]) := by
  refine contract_run Try.func29 (b := bod Try.f29) rfl ent ?_
  unfold fn at h
  obtain ⟨r15, h16, h⟩ := bind_cases h
  refine runTo_S (n := 5) (c := (.code (bod Try.f29))) (K := []) (b := (.code B0)) (K1 := K0) (t := I0 f0 fuel2 s1.f0 s1.f1 s1.f2 ([] : List Int)) (l := [(0, 0), (1, 1), (2, 2), (3, 3), (4, 4)])
    (hs := [.h (.new 0), .h (.new 1), .skip, .skip, .skip, .g (.nilC 1 0 1), .g (.opn 1 0 2), .g (.nilC 1 1 1), .g (.opn 1 1 3), .g (.nilC 1 2 1), .g (.opn 1 2 4)])
    (ps := [((vS eT115 f0) : V) = (vS eT115 f0), (fuel2 : Int) = fuel2, 0 = 0, 0 = 0, (own (cs eJ ([] : List Int))) = (cs eJ ([] : List Int)).map C.own, (own (cs eJ ([] : List Int))) = (cs eJ ([] : List Int)).map C.own, (own (cs eJ ([] : List Int))) = (cs eJ ([] : List Int)).map C.own, ((vS eJ s1.f0) : V) = (vS eJ s1.f0), ((vS eJ s1.f1) : V) = (vS eJ s1.f1), ((vS eJ s1.f2) : V) = (vS eJ s1.f2), 0 = 0, 0 = ([] : List Int).length, 0 = 0, 0 = ([] : List Int).length, 0 = 0, 0 = ([] : List Int).length])
    (by kernel_rfl) ⟨rfl, rfl, rfl, rfl, rfl, rfl, rfl, rfl, rfl, rfl, rfl, rfl, rfl, rfl, rfl, rfl, trivial⟩ (cut_code ?_)
  refine TW.mono_le (p0_c fuel f0 fuel2 s1.f0 s1.f1 s1.f2 ([] : List Int) _ h16) ?_
  rintro e st hq
  obtain ⟨rfl, hl⟩ := hq
  refine ⟨_, hl, ?_⟩
  rcases cond_cases h with ⟨h17, h⟩ | ⟨h17, h⟩
  · 
    obtain rfl := Option.some.inj h
    exact runRet_S (r := ⟨Try.f29.results.toList, _, _, _, [(5, (cs eJ ([] : List Int)), (cs eJ ([] : List Int))), (6, (cs eJ ([] : List Int)), (cs eJ ([] : List Int))), (7, (cs eJ ([] : List Int)), (cs eJ ([] : List Int)))], 9⟩) (n := 100000) (c := (.out .normal)) (K := K0) (s := (J0_0 f0 fuel2 s1.f0 s1.f1 s1.f2 ([] : List Int) r15).sl)
      (hs := [.g (.env 25 (C.v (vB true))), hA, .skip, .skip, .skip, .g (.nilC 1 0 1), .g (.opn 1 0 5), .g (.nilC 1 1 1), .g (.opn 1 1 6), .g (.nilC 1 2 1), .g (.opn 1 2 7)])
      (ps := [C.v (vB r15) = C.v (vB true), (own (cs eJ ([] : List Int))) = (cs eJ ([] : List Int)).map C.own, 0 + 0 * 1 ≤ (cs eJ ([] : List Int)).length, ((cs eJ ([] : List Int)).drop (0)).take (0 * 1) = (cs eJ ([] : List Int)), (own (cs eJ ([] : List Int))) = (cs eJ ([] : List Int)).map C.own, 0 + 0 * 1 ≤ (cs eJ ([] : List Int)).length, ((cs eJ ([] : List Int)).drop (0)).take (0 * 1) = (cs eJ ([] : List Int)), (own (cs eJ ([] : List Int))) = (cs eJ ([] : List Int)).map C.own, 0 + 0 * 1 ≤ (cs eJ ([] : List Int)).length, ((cs eJ ([] : List Int)).drop (0)).take (0 * 1) = (cs eJ ([] : List Int)), (V.tp [(.ag [(.sl 1 0 (cs eJ ([] : List Int))), (.sl 1 0 (cs eJ ([] : List Int))), (.sl 1 0 (cs eJ ([] : List Int)))]), (vI .i64 0), (vI .i64 0), (vB false)]) = V.tp [(.ag (eT44.f (⟨([] : List Int), ([] : List Int), ([] : List Int)⟩ : T44))), (vI .i64 0), (vI .i64 0), (vB false)]])
      (by kernel_rfl) ⟨vbB h17, rfl, len_all (e := eJ) (rfl), take_cs (e := eJ) (rfl), rfl, len_all (e := eJ) (rfl), take_cs (e := eJ) (rfl), rfl, len_all (e := eJ) (rfl), take_cs (e := eJ) (rfl), rfl, trivial⟩ rfl (fun _ _ h => h)
  · 
    obtain ⟨r18, h19, h⟩ := bind_cases h
    obtain ⟨r20, h21, h⟩ := bind_cases h
    obtain rfl := Option.some.inj h
    exact runRet_S (r := ⟨Try.f29.results.toList, _, _, _, [(9, (cs eJ r20.f0), (cs eJ r20.f0)), (10, (cs eJ r20.f1), (cs eJ r20.f1)), (11, (cs eJ r20.f2), (cs eJ r20.f2))], 9⟩) (n := 100000) (c := (.out .normal)) (K := K0) (s := (J0_0 f0 fuel2 s1.f0 s1.f1 s1.f2 ([] : List Int) r15).sl)
      (hs := [.g (.env 25 (C.v (vB false))), hA, .call ⟨[.ro, .ro, .ro], 9, [], true, [], (.tp [(.ag (eT44.f r18.1)), (vI .i64 r18.2.1), (vI .i64 r18.2.2)]), [], 5⟩, .h (.new 8), hA, hA, .call ⟨[.ro], 9, [(5, (cs eJ r18.1.f0), (cs eJ r18.1.f0)), (6, (cs eJ r18.1.f1), (cs eJ r18.1.f1)), (7, (cs eJ r18.1.f2), (cs eJ r18.1.f2))], false, [], (.ag (eT44.f r20)), [], 9⟩, hA])
      (ps := [C.v (vB r15) = C.v (vB false), CallOK Try.prog 93 [.ro (vS eT115 f0), .ro (.ag [(vS eJ s1.f0), (vS eJ s1.f1), (vS eJ s1.f2)]), .ro (vI .i64 fuel2)] [] (.tp [(.ag (eT44.f r18.1)), (vI .i64 r18.2.1), (vI .i64 r18.2.2)]), CallOK Try.prog 94 [.ro (.ag [(.sl 1 r18.1.f0.length (cs eJ r18.1.f0)), (.sl 1 r18.1.f1.length (cs eJ r18.1.f1)), (.sl 1 r18.1.f2.length (cs eJ r18.1.f2))])] [] (.ag (eT44.f r20)), (own (cs eJ r18.1.f0)) = (cs eJ r18.1.f0).map C.own, 0 + r18.1.f0.length * 1 ≤ (cs eJ r18.1.f0).length, ((cs eJ r18.1.f0).drop (0)).take (r18.1.f0.length * 1) = (cs eJ r18.1.f0), (own (cs eJ r18.1.f1)) = (cs eJ r18.1.f1).map C.own, 0 + r18.1.f1.length * 1 ≤ (cs eJ r18.1.f1).length, ((cs eJ r18.1.f1).drop (0)).take (r18.1.f1.length * 1) = (cs eJ r18.1.f1), (own (cs eJ r18.1.f2)) = (cs eJ r18.1.f2).map C.own, 0 + r18.1.f2.length * 1 ≤ (cs eJ r18.1.f2).length, ((cs eJ r18.1.f2).drop (0)).take (r18.1.f2.length * 1) = (cs eJ r18.1.f2), (noImL [] && noIm (.ag (eT44.f r20))) = true, (own (cs eJ r20.f0)) = (cs eJ r20.f0).map C.own, 0 + r20.f0.length * 1 ≤ (cs eJ r20.f0).length, ((cs eJ r20.f0).drop (0)).take (r20.f0.length * 1) = (cs eJ r20.f0), (own (cs eJ r20.f1)) = (cs eJ r20.f1).map C.own, 0 + r20.f1.length * 1 ≤ (cs eJ r20.f1).length, ((cs eJ r20.f1).drop (0)).take (r20.f1.length * 1) = (cs eJ r20.f1), (own (cs eJ r20.f2)) = (cs eJ r20.f2).map C.own, 0 + r20.f2.length * 1 ≤ (cs eJ r20.f2).length, ((cs eJ r20.f2).drop (0)).take (r20.f2.length * 1) = (cs eJ r20.f2), (V.tp [(.ag [(.sl 1 r20.f0.length (cs eJ r20.f0)), (.sl 1 r20.f1.length (cs eJ r20.f1)), (.sl 1 r20.f2.length (cs eJ r20.f2))]), (vI .i64 r18.2.1), (vI .i64 r18.2.2), (vB true)]) = V.tp [(.ag (eT44.f r20)), (vI .i64 r18.2.1), (vI .i64 r18.2.2), (vB true)]])
      (by kernel_rfl) ⟨vbB h17, F93.fn_c fuel f0 s1 fuel2 _ h19, F94.fn_c fuel r18.1 _ h21, rfl, len_all (e := eJ) (rfl), take_cs (e := eJ) (rfl), rfl, len_all (e := eJ) (rfl), take_cs (e := eJ) (rfl), rfl, len_all (e := eJ) (rfl), take_cs (e := eJ) (rfl), by simp [noIm, noImL, noImL_cs, NI.noim], rfl, len_all (e := eJ) (rfl), take_cs (e := eJ) (rfl), rfl, len_all (e := eJ) (rfl), take_cs (e := eJ) (rfl), rfl, len_all (e := eJ) (rfl), take_cs (e := eJ) (rfl), rfl, trivial⟩ rfl (fun _ _ h => h)
end F29
namespace F103
/-! laws.toFlat -/
def fn (fuel : Nat) (a0 : T131) : Option T131 :=
  some a0
theorem ent : enterable Try.prog 103 = true := by kernel_rfl
theorem fn_c (fuel : Nat) (a0 : T131) (r : T131) (h : fn fuel a0 = some r) : CallOK Try.prog 103 [.ro (.ag (eT131.f a0))] [] (.ag (eT131.f r)) := by
  refine contract_run Try.func103 (b := bod Try.f103) rfl ent ?_
  unfold fn at h
  obtain rfl := Option.some.inj h
  exact runRet_S (r := ⟨Try.f103.results.toList, _, _, _, [], 9⟩) (n := 100000) (c := (.code (bod Try.f103))) (K := [])
    (hs := [.h (.new 0), .h (.new 1), .h (.new 2), hA, hA, hA, hA, hA, hA, hA, hA, hA, hA, hA, hA, hA, hA])
    (ps := [((.ag [(vI .i64 a0.f0), (vI .i64 a0.f1), (vI .i64 a0.f2), (vI .i64 a0.f3), (vI .i64 a0.f4), (vI .i64 a0.f5)]) : V) = (.ag (eT131.f a0))])
    (by kernel_rfl) ⟨rfl, trivial⟩ rfl (fun _ _ h => h)
end F103
namespace F40
/-! laws.toFlatS -/
noncomputable def K0 := (subC [1, 1, 0, 1, 0] (bod Try.f40) []).2
noncomputable def L0 := (subC [1, 1, 0, 1, 0, 0] (bod Try.f40) []).1
def I0 (a2 : List T131) (out3 : List T131) (i4 : Int) : TL := ⟨23, [C.dead], [(0, C.v (vS eT131 a2)), (3, C.sr 0 0 6 out3.length), (4, C.v (vI .i64 i4))], [(0, (cs eT131 out3))], []⟩
def J0_0 (a2 : List T131) (o : (List T131)) : TL := ⟨23, [C.dead], [(3, C.sr 0 0 6 o.length)], [(0, (cs eT131 o))], []⟩
def Q0 (a2 : List T131) (r : (List T131)) (e : Exit) (st : St) : Prop := (fun o => e = (.exit 0) ∧ Le st (J0_0 a2 o).sl.st) r
def p0 (fuel : Nat) (a2 : List T131) : Nat → (List T131) → Int → Option (List T131)
  | 0, _, _ => none
  | n + 1, out3, i4 =>
    cond (decide (i4 < (a2.length : Int)))
    ((idx i4 a2.length).bind fun j6 =>
      (F103.fn fuel (a2.getD j6 (default : T131))).bind fun r8 =>
      (idx i4 out3.length).bind fun j10 =>
      p0 fuel a2 n (out3.set j10 r8) (w64 (i4 + 1)))
    (some out3)
theorem p0_c (fuel : Nat) (a2 : List T131) (n : Nat) (out3 : List T131) (i4 : Int) (r : (List T131)) (h : p0 fuel a2 n out3 i4 = some r) : TW Try.prog (.loop L0) (I0 a2 out3 i4).sl.st (Q0 a2 r) := by
  refine loop_run (σ := (List T131) × Int) (fun x => I0 a2 x.1 x.2) (fun n x => p0 fuel a2 n x.1 x.2) (Q0 a2) ?_ (fun _ => rfl) (x := (out3, i4)) h
  clear h
  rintro n ⟨out3, i4⟩ r h
  replace h : p0 fuel a2 (n + 1) out3 i4 = some r := h
  rw [p0] at h
  rcases cond_cases h with ⟨h5, h⟩ | ⟨h5, h⟩
  · 
    obtain ⟨j6, h7, h⟩ := bind_cases h
    obtain ⟨r8, h9, h⟩ := bind_cases h
    obtain ⟨j10, h11, h⟩ := bind_cases h
    exact runAt_S (Q := Round _ (n + 1) _) (n := 100000) (c := (.code L0)) (K := []) (s := (I0 a2 out3 i4).sl) (e := .normal) (t := I0 a2 (out3.set j10 r8) (w64 (i4 + 1))) (l := [(0, 0)])
      (hs := [hA, hA, .g (.env 11 (C.v (vB true))), .h (.idv j6 (eT131.f (a2.getD j6 (default : T131)) ++ (cs eT131 (a2.drop (j6 + 1))))), hA, .call ⟨[.ro], 9, [], true, [], (.ag (eT131.f r8)), [], 1⟩, .h (.idx j10 false), .h (.cells (own (cs eT131 (out3.set j10 r8)))), hA])
      (ps := [C.v (vB (decide (i4 < (a2.length : Int)))) = C.v (vB true), i4 = (j6 : Int), j6 < a2.length, (cs eT131 a2).drop (j6 * 6) = (eT131.f (a2.getD j6 (default : T131)) ++ (cs eT131 (a2.drop (j6 + 1)))), cs eT131 a2 ≠ [], CallOK Try.prog 103 [.ro (.ag [(vI .i64 ((a2.getD j6 (default : T131)).f0)), (vI .i64 ((a2.getD j6 (default : T131)).f1)), (vI .i64 ((a2.getD j6 (default : T131)).f2)), (vI .i64 ((a2.getD j6 (default : T131)).f3)), (vI .i64 ((a2.getD j6 (default : T131)).f4)), (vI .i64 ((a2.getD j6 (default : T131)).f5))])] [] (.ag (eT131.f r8)), i4 = (j10 : Int), j10 < out3.length, 0 + j10 * 6 + 6 ≤ (own (cs eT131 out3)).length, setRange (own (cs eT131 out3)) (0 + j10 * 6) [C.own (vI .i64 r8.f0), C.own (vI .i64 r8.f1), C.own (vI .i64 r8.f2), C.own (vI .i64 r8.f3), C.own (vI .i64 r8.f4), C.own (vI .i64 r8.f5)] = (own (cs eT131 (out3.set j10 r8))), ((vS eT131 a2) : V) = (vS eT131 a2), 0 = 0, out3.length = (out3.set j10 r8).length, (w64 (i4 + 1) : Int) = (w64 (i4 + 1)), (own (cs eT131 (out3.set j10 r8))) = (cs eT131 (out3.set j10 r8)).map C.own])
      (by kernel_rfl) ⟨vbB h5, (idx_S h7).1, (idx_S h7).2, cs_from (e := eT131) (d := (default : T131)) (idx_S h7).2, cs_ne (e := eT131) (idx_S h7).2 (by decide), F103.fn_c fuel (a2.getD j6 (default : T131)) _ h9, (idx_S h11).1, (idx_S h11).2, own_room (e := eT131) (idx_S h11).2, own_set (e := eT131) (idx_S h11).2 rfl, rfl, rfl, set_ln, rfl, rfl, trivial⟩ (fun st hl => ⟨n, _, Nat.lt_succ_self n, hl, (out3.set j10 r8, w64 (i4 + 1)), rfl, rfl, h⟩)
  · 
    obtain rfl := Option.some.inj h
    exact runAt_S (Q := Round _ (n + 1) _) (n := 100000) (c := (.code L0)) (K := []) (s := (I0 a2 out3 i4).sl) (e := (.exit 0)) (t := J0_0 a2 out3) (l := [(0, 0)])
      (hs := [hA, hA, .g (.env 11 (C.v (vB false)))])
      (ps := [C.v (vB (decide (i4 < (a2.length : Int)))) = C.v (vB false), 0 = 0, out3.length = out3.length, (own (cs eT131 out3)) = (cs eT131 out3).map C.own])
      (by kernel_rfl) ⟨vbB h5, rfl, rfl, rfl, trivial⟩ (fun st hl => ⟨rfl, hl⟩)
def fn (fuel : Nat) (a0 : List T131) : Option (List T131) :=
  (chk (48 * a0.length ≤ 281474976710656)).bind fun _ =>
  (p0 fuel a0 fuel (List.replicate a0.length (default : T131)) (0 : Int)).bind fun r12 =>
  some r12
theorem ent : enterable Try.prog 40 = true := by kernel_rfl
theorem fn_c (fuel : Nat) (a0 : List T131) (r : (List T131)) (h : fn fuel a0 = some r) : CallOK Try.prog 40 [.ro (vS eT131 a0)] [] (vS eT131 r) := by
  refine contract_run Try.func40 (b := bod Try.f40) rfl ent ?_
  unfold fn at h
  obtain ⟨_, h1, h⟩ := bind_cases h
  obtain ⟨r12, h13, h⟩ := bind_cases h
  refine runTo_S (n := 100000) (c := (.code (bod Try.f40))) (K := []) (b := (.code (.loop L0))) (K1 := K0) (t := I0 a0 (List.replicate a0.length (default : T131)) (0 : Int)) (l := [(0, 0)])
    (hs := [hA, .h (.mk 0 a0.length (own (cs eT131 (List.replicate a0.length (default : T131)))))])
    (ps := [(a0.length : Int) = (a0.length : Int), (a0.length : Int) = (a0.length : Int), a0.length ≤ 281474976710656, 48 * a0.length ≤ 281474976710656, (List.replicate a0.length (([Value.int .i64 0, Value.int .i64 0, Value.int .i64 0, Value.int .i64 0, Value.int .i64 0, Value.int .i64 0] : List Value).map fun z => C.own (.sc z))).flatten = (own (cs eT131 (List.replicate a0.length (default : T131)))), ((vS eT131 a0) : V) = (vS eT131 a0), 0 = 0, a0.length = (List.replicate a0.length (default : T131)).length, (0 : Int) = (0 : Int), (own (cs eT131 (List.replicate a0.length (default : T131)))) = (cs eT131 (List.replicate a0.length (default : T131))).map C.own])
    (by kernel_rfl) ⟨rfl, rfl, by have := (chk_S h1); omega, (chk_S h1), repl_cs (e := eT131) rfl, rfl, rfl, List.length_replicate.symm, rfl, rfl, trivial⟩ (cut_code ?_)
  refine TW.mono_le (p0_c fuel a0 fuel (List.replicate a0.length (default : T131)) (0 : Int) _ h13) ?_
  rintro e st hq
  obtain ⟨rfl, hl⟩ := hq
  refine ⟨_, hl, ?_⟩
  obtain rfl := Option.some.inj h
  exact runRet_S (r := ⟨Try.f40.results.toList, _, _, _, [(0, (cs eT131 r12), (cs eT131 r12))], 9⟩) (n := 100000) (c := (.out (.exit 0))) (K := K0) (s := (J0_0 a0 r12).sl)
    (hs := [])
    (ps := [(own (cs eT131 r12)) = (cs eT131 r12).map C.own, 0 + r12.length * 6 ≤ (cs eT131 r12).length, ((cs eT131 r12).drop (0)).take (r12.length * 6) = (cs eT131 r12), ((.sl 6 r12.length (cs eT131 r12)) : V) = (vS eT131 r12)])
    (by kernel_rfl) ⟨rfl, len_all (e := eT131) (rfl), take_cs (e := eT131) (rfl), rfl, trivial⟩ rfl (fun _ _ h => h)
end F40
namespace F41
/-! laws.toIntS -/
noncomputable def K0 := (subC [1, 1, 0, 1, 0] (bod Try.f41) []).2
noncomputable def L0 := (subC [1, 1, 0, 1, 0, 0] (bod Try.f41) []).1
def I0 (a2 : List Int) (out3 : List Int) (i4 : Int) : TL := ⟨22, [C.dead], [(0, C.v (vS eJ a2)), (3, C.sr 0 0 1 out3.length), (4, C.v (vI .i64 i4))], [(0, (cs eJ out3))], []⟩
def J0_0 (a2 : List Int) (o : (List Int)) : TL := ⟨22, [C.dead], [(3, C.sr 0 0 1 o.length)], [(0, (cs eJ o))], []⟩
def Q0 (a2 : List Int) (r : (List Int)) (e : Exit) (st : St) : Prop := (fun o => e = (.exit 0) ∧ Le st (J0_0 a2 o).sl.st) r
def p0 (fuel : Nat) (a2 : List Int) : Nat → (List Int) → Int → Option (List Int)
  | 0, _, _ => none
  | n + 1, out3, i4 =>
    cond (decide (i4 < (a2.length : Int)))
    ((idx i4 a2.length).bind fun j6 =>
      (idx i4 out3.length).bind fun j8 =>
      p0 fuel a2 n (out3.set j8 (a2.getD j6 (0 : Int))) (w64 (i4 + 1)))
    (some out3)
theorem p0_c (fuel : Nat) (a2 : List Int) (n : Nat) (out3 : List Int) (i4 : Int) (r : (List Int)) (h : p0 fuel a2 n out3 i4 = some r) : TW Try.prog (.loop L0) (I0 a2 out3 i4).sl.st (Q0 a2 r) := by
  refine loop_run (σ := (List Int) × Int) (fun x => I0 a2 x.1 x.2) (fun n x => p0 fuel a2 n x.1 x.2) (Q0 a2) ?_ (fun _ => rfl) (x := (out3, i4)) h
  clear h
  rintro n ⟨out3, i4⟩ r h
  replace h : p0 fuel a2 (n + 1) out3 i4 = some r := h
  rw [p0] at h
  rcases cond_cases h with ⟨h5, h⟩ | ⟨h5, h⟩
  · 
    obtain ⟨j6, h7, h⟩ := bind_cases h
    obtain ⟨j8, h9, h⟩ := bind_cases h
    exact runAt_S (Q := Round _ (n + 1) _) (n := 100000) (c := (.code L0)) (K := []) (s := (I0 a2 out3 i4).sl) (e := .normal) (t := I0 a2 (out3.set j8 (a2.getD j6 (0 : Int))) (w64 (i4 + 1))) (l := [(0, 0)])
      (hs := [hA, hA, .g (.env 11 (C.v (vB true))), .h (.idv j6 (eJ.f (a2.getD j6 (0 : Int)) ++ (cs eJ (a2.drop (j6 + 1))))), hA, .h (.idx j8 false), .h (.cells (own (cs eJ (out3.set j8 (a2.getD j6 (0 : Int)))))), hA])
      (ps := [C.v (vB (decide (i4 < (a2.length : Int)))) = C.v (vB true), i4 = (j6 : Int), j6 < a2.length, (cs eJ a2).drop (j6 * 1) = (eJ.f (a2.getD j6 (0 : Int)) ++ (cs eJ (a2.drop (j6 + 1)))), cs eJ a2 ≠ [], i4 = (j8 : Int), j8 < out3.length, 0 + j8 * 1 + 1 ≤ (own (cs eJ out3)).length, setRange (own (cs eJ out3)) (0 + j8 * 1) [C.own (vI .i64 (a2.getD j6 (0 : Int)))] = (own (cs eJ (out3.set j8 (a2.getD j6 (0 : Int))))), ((vS eJ a2) : V) = (vS eJ a2), 0 = 0, out3.length = (out3.set j8 (a2.getD j6 (0 : Int))).length, (w64 (i4 + 1) : Int) = (w64 (i4 + 1)), (own (cs eJ (out3.set j8 (a2.getD j6 (0 : Int))))) = (cs eJ (out3.set j8 (a2.getD j6 (0 : Int)))).map C.own])
      (by kernel_rfl) ⟨vbB h5, (idx_S h7).1, (idx_S h7).2, cs_from (e := eJ) (d := (0 : Int)) (idx_S h7).2, cs_ne (e := eJ) (idx_S h7).2 (by decide), (idx_S h9).1, (idx_S h9).2, own_room (e := eJ) (idx_S h9).2, own_set (e := eJ) (idx_S h9).2 rfl, rfl, rfl, set_ln, rfl, rfl, trivial⟩ (fun st hl => ⟨n, _, Nat.lt_succ_self n, hl, (out3.set j8 (a2.getD j6 (0 : Int)), w64 (i4 + 1)), rfl, rfl, h⟩)
  · 
    obtain rfl := Option.some.inj h
    exact runAt_S (Q := Round _ (n + 1) _) (n := 100000) (c := (.code L0)) (K := []) (s := (I0 a2 out3 i4).sl) (e := (.exit 0)) (t := J0_0 a2 out3) (l := [(0, 0)])
      (hs := [hA, hA, .g (.env 11 (C.v (vB false)))])
      (ps := [C.v (vB (decide (i4 < (a2.length : Int)))) = C.v (vB false), 0 = 0, out3.length = out3.length, (own (cs eJ out3)) = (cs eJ out3).map C.own])
      (by kernel_rfl) ⟨vbB h5, rfl, rfl, rfl, trivial⟩ (fun st hl => ⟨rfl, hl⟩)
def fn (fuel : Nat) (a0 : List Int) : Option (List Int) :=
  (chk (8 * a0.length ≤ 281474976710656)).bind fun _ =>
  (p0 fuel a0 fuel (List.replicate a0.length (0 : Int)) (0 : Int)).bind fun r10 =>
  some r10
theorem ent : enterable Try.prog 41 = true := by kernel_rfl
theorem fn_c (fuel : Nat) (a0 : List Int) (r : (List Int)) (h : fn fuel a0 = some r) : CallOK Try.prog 41 [.ro (vS eJ a0)] [] (vS eJ r) := by
  refine contract_run Try.func41 (b := bod Try.f41) rfl ent ?_
  unfold fn at h
  obtain ⟨_, h1, h⟩ := bind_cases h
  obtain ⟨r10, h11, h⟩ := bind_cases h
  refine runTo_S (n := 100000) (c := (.code (bod Try.f41))) (K := []) (b := (.code (.loop L0))) (K1 := K0) (t := I0 a0 (List.replicate a0.length (0 : Int)) (0 : Int)) (l := [(0, 0)])
    (hs := [hA, .h (.mk 0 a0.length (own (cs eJ (List.replicate a0.length (0 : Int)))))])
    (ps := [(a0.length : Int) = (a0.length : Int), (a0.length : Int) = (a0.length : Int), a0.length ≤ 281474976710656, 8 * a0.length ≤ 281474976710656, (List.replicate a0.length (([Value.int .i64 0] : List Value).map fun z => C.own (.sc z))).flatten = (own (cs eJ (List.replicate a0.length (0 : Int)))), ((vS eJ a0) : V) = (vS eJ a0), 0 = 0, a0.length = (List.replicate a0.length (0 : Int)).length, (0 : Int) = (0 : Int), (own (cs eJ (List.replicate a0.length (0 : Int)))) = (cs eJ (List.replicate a0.length (0 : Int))).map C.own])
    (by kernel_rfl) ⟨rfl, rfl, by have := (chk_S h1); omega, (chk_S h1), repl_cs (e := eJ) rfl, rfl, rfl, List.length_replicate.symm, rfl, rfl, trivial⟩ (cut_code ?_)
  refine TW.mono_le (p0_c fuel a0 fuel (List.replicate a0.length (0 : Int)) (0 : Int) _ h11) ?_
  rintro e st hq
  obtain ⟨rfl, hl⟩ := hq
  refine ⟨_, hl, ?_⟩
  obtain rfl := Option.some.inj h
  exact runRet_S (r := ⟨Try.f41.results.toList, _, _, _, [(0, (cs eJ r10), (cs eJ r10))], 9⟩) (n := 100000) (c := (.out (.exit 0))) (K := K0) (s := (J0_0 a0 r10).sl)
    (hs := [])
    (ps := [(own (cs eJ r10)) = (cs eJ r10).map C.own, 0 + r10.length * 1 ≤ (cs eJ r10).length, ((cs eJ r10).drop (0)).take (r10.length * 1) = (cs eJ r10), ((.sl 1 r10.length (cs eJ r10)) : V) = (vS eJ r10)])
    (by kernel_rfl) ⟨rfl, len_all (e := eJ) (rfl), take_cs (e := eJ) (rfl), rfl, trivial⟩ rfl (fun _ _ h => h)
end F41
namespace F95
/-! laws.toBlock -/
def fn (fuel : Nat) (a0 : T115) : Option T115 :=
  (F40.fn fuel a0.f0).bind fun r1 =>
  (F41.fn fuel a0.f3).bind fun r3 =>
  some (⟨r1, a0.f1, a0.f2, r3⟩ : T115)
theorem ent : enterable Try.prog 95 = true := by kernel_rfl
theorem fn_c (fuel : Nat) (a0 : T115) (r : T115) (h : fn fuel a0 = some r) : CallOK Try.prog 95 [.ro (.ag (eT115.f a0))] [] (.ag (eT115.f r)) := by
  refine contract_run Try.func95 (b := bod Try.f95) rfl ent ?_
  unfold fn at h
  obtain ⟨r1, h2, h⟩ := bind_cases h
  obtain ⟨r3, h4, h⟩ := bind_cases h
  obtain rfl := Option.some.inj h
  exact runRet_S (r := ⟨Try.f95.results.toList, _, _, _, [(3, (cs eT131 r1), (cs eT131 r1)), (4, (cs eJ r3), (cs eJ r3))], 9⟩) (n := 100000) (c := (.code (bod Try.f95))) (K := [])
    (hs := [.h (.new 0), .h (.new 1), .h (.new 2), hA, .call ⟨[.ro], 9, [], true, [], (vS eT131 r1), [], 3⟩, hA, hA, hA, hA, hA, hA, .call ⟨[.ro], 9, [], true, [], (vS eJ r3), [], 4⟩, hA, hA, hA])
    (ps := [CallOK Try.prog 40 [.ro (vS eT131 a0.f0)] [] (vS eT131 r1), CallOK Try.prog 41 [.ro (vS eJ a0.f3)] [] (vS eJ r3), (own (cs eT131 r1)) = (cs eT131 r1).map C.own, 0 + r1.length * 6 ≤ (cs eT131 r1).length, ((cs eT131 r1).drop (0)).take (r1.length * 6) = (cs eT131 r1), (own (cs eJ r3)) = (cs eJ r3).map C.own, 0 + r3.length * 1 ≤ (cs eJ r3).length, ((cs eJ r3).drop (0)).take (r3.length * 1) = (cs eJ r3), ((.ag [(.sl 6 r1.length (cs eT131 r1)), (vI .i64 a0.f1), (vI .i64 a0.f2), (.sl 1 r3.length (cs eJ r3))]) : V) = (.ag (eT115.f (⟨r1, a0.f1, a0.f2, r3⟩ : T115)))])
    (by kernel_rfl) ⟨F40.fn_c fuel a0.f0 _ h2, F41.fn_c fuel a0.f3 _ h4, rfl, len_all (e := eT131) (rfl), take_cs (e := eT131) (rfl), rfl, len_all (e := eJ) (rfl), take_cs (e := eJ) (rfl), rfl, trivial⟩ rfl (fun _ _ h => h)
end F95
namespace F30
/-! laws.toBlockS -/
noncomputable def K0 := (subC [1, 1, 0, 1, 0] (bod Try.f30) []).2
noncomputable def L0 := (subC [1, 1, 0, 1, 0, 0] (bod Try.f30) []).1
def I0 (a2 : List T115) (out3 : List T115) (i4 : Int) : TL := ⟨23, [C.dead], [(0, C.v (vS eT115 a2)), (3, C.sr 0 0 4 out3.length), (4, C.v (vI .i64 i4))], [(0, (cs eT115 out3))], []⟩
def J0_0 (a2 : List T115) (o : (List T115)) : TL := ⟨23, [C.dead], [(3, C.sr 0 0 4 o.length)], [(0, (cs eT115 o))], []⟩
def Q0 (a2 : List T115) (r : (List T115)) (e : Exit) (st : St) : Prop := (fun o => e = (.exit 0) ∧ Le st (J0_0 a2 o).sl.st) r
def p0 (fuel : Nat) (a2 : List T115) : Nat → (List T115) → Int → Option (List T115)
  | 0, _, _ => none
  | n + 1, out3, i4 =>
    cond (decide (i4 < (a2.length : Int)))
    ((idx i4 a2.length).bind fun j6 =>
      (F95.fn fuel (a2.getD j6 (default : T115))).bind fun r8 =>
      (idx i4 out3.length).bind fun j10 =>
      p0 fuel a2 n (out3.set j10 r8) (w64 (i4 + 1)))
    (some out3)
theorem p0_c (fuel : Nat) (a2 : List T115) (n : Nat) (out3 : List T115) (i4 : Int) (r : (List T115)) (h : p0 fuel a2 n out3 i4 = some r) : TW Try.prog (.loop L0) (I0 a2 out3 i4).sl.st (Q0 a2 r) := by
  refine loop_run (σ := (List T115) × Int) (fun x => I0 a2 x.1 x.2) (fun n x => p0 fuel a2 n x.1 x.2) (Q0 a2) ?_ (fun _ => rfl) (x := (out3, i4)) h
  clear h
  rintro n ⟨out3, i4⟩ r h
  replace h : p0 fuel a2 (n + 1) out3 i4 = some r := h
  rw [p0] at h
  rcases cond_cases h with ⟨h5, h⟩ | ⟨h5, h⟩
  · 
    obtain ⟨j6, h7, h⟩ := bind_cases h
    obtain ⟨r8, h9, h⟩ := bind_cases h
    obtain ⟨j10, h11, h⟩ := bind_cases h
    exact runAt_S (Q := Round _ (n + 1) _) (n := 100000) (c := (.code L0)) (K := []) (s := (I0 a2 out3 i4).sl) (e := .normal) (t := I0 a2 (out3.set j10 r8) (w64 (i4 + 1))) (l := [(0, 0)])
      (hs := [hA, hA, .g (.env 11 (C.v (vB true))), .h (.idv j6 (eT115.f (a2.getD j6 (default : T115)) ++ (cs eT115 (a2.drop (j6 + 1))))), hA, .call ⟨[.ro], 9, [], true, [], (.ag (eT115.f r8)), [], 1⟩, .h (.idx j10 false), .h (.cls [(1, (cs eT131 r8.f0), (cs eT131 r8.f0)), (2, (cs eJ r8.f3), (cs eJ r8.f3))] 9 (own (cs eT115 (out3.set j10 r8)))), hA])
      (ps := [C.v (vB (decide (i4 < (a2.length : Int)))) = C.v (vB true), i4 = (j6 : Int), j6 < a2.length, (cs eT115 a2).drop (j6 * 4) = (eT115.f (a2.getD j6 (default : T115)) ++ (cs eT115 (a2.drop (j6 + 1)))), cs eT115 a2 ≠ [], CallOK Try.prog 95 [.ro (.ag [(vS eT131 ((a2.getD j6 (default : T115)).f0)), (vI .i64 ((a2.getD j6 (default : T115)).f1)), (vI .i64 ((a2.getD j6 (default : T115)).f2)), (vS eJ ((a2.getD j6 (default : T115)).f3))])] [] (.ag (eT115.f r8)), i4 = (j10 : Int), j10 < out3.length, (own (cs eT131 r8.f0)) = (cs eT131 r8.f0).map C.own, 0 + r8.f0.length * 6 ≤ (cs eT131 r8.f0).length, ((cs eT131 r8.f0).drop (0)).take (r8.f0.length * 6) = (cs eT131 r8.f0), (own (cs eJ r8.f3)) = (cs eJ r8.f3).map C.own, 0 + r8.f3.length * 1 ≤ (cs eJ r8.f3).length, ((cs eJ r8.f3).drop (0)).take (r8.f3.length * 1) = (cs eJ r8.f3), 0 + j10 * 4 + 4 ≤ (own (cs eT115 out3)).length, setRange (own (cs eT115 out3)) (0 + j10 * 4) (([(.sl 6 r8.f0.length (cs eT131 r8.f0)), (vI .i64 r8.f1), (vI .i64 r8.f2), (.sl 1 r8.f3.length (cs eJ r8.f3))] : List V).map C.own) = (own (cs eT115 (out3.set j10 r8))), ((vS eT115 a2) : V) = (vS eT115 a2), 0 = 0, out3.length = (out3.set j10 r8).length, (w64 (i4 + 1) : Int) = (w64 (i4 + 1)), (own (cs eT115 (out3.set j10 r8))) = (cs eT115 (out3.set j10 r8)).map C.own])
      (by kernel_rfl) ⟨vbB h5, (idx_S h7).1, (idx_S h7).2, cs_from (e := eT115) (d := (default : T115)) (idx_S h7).2, cs_ne (e := eT115) (idx_S h7).2 (by decide), F95.fn_c fuel (a2.getD j6 (default : T115)) _ h9, (idx_S h11).1, (idx_S h11).2, rfl, len_all (e := eT131) (rfl), take_cs (e := eT131) (rfl), rfl, len_all (e := eJ) (rfl), take_cs (e := eJ) (rfl), own_room (e := eT115) (idx_S h11).2, own_set (e := eT115) (idx_S h11).2 rfl, rfl, rfl, set_ln, rfl, rfl, trivial⟩ (fun st hl => ⟨n, _, Nat.lt_succ_self n, hl, (out3.set j10 r8, w64 (i4 + 1)), rfl, rfl, h⟩)
  · 
    obtain rfl := Option.some.inj h
    exact runAt_S (Q := Round _ (n + 1) _) (n := 100000) (c := (.code L0)) (K := []) (s := (I0 a2 out3 i4).sl) (e := (.exit 0)) (t := J0_0 a2 out3) (l := [(0, 0)])
      (hs := [hA, hA, .g (.env 11 (C.v (vB false)))])
      (ps := [C.v (vB (decide (i4 < (a2.length : Int)))) = C.v (vB false), 0 = 0, out3.length = out3.length, (own (cs eT115 out3)) = (cs eT115 out3).map C.own])
      (by kernel_rfl) ⟨vbB h5, rfl, rfl, rfl, trivial⟩ (fun st hl => ⟨rfl, hl⟩)
def fn (fuel : Nat) (a0 : List T115) : Option (List T115) :=
  (chk (64 * a0.length ≤ 281474976710656)).bind fun _ =>
  (p0 fuel a0 fuel (List.replicate a0.length (default : T115)) (0 : Int)).bind fun r12 =>
  some r12
theorem ent : enterable Try.prog 30 = true := by kernel_rfl
theorem fn_c (fuel : Nat) (a0 : List T115) (r : (List T115)) (h : fn fuel a0 = some r) : CallOK Try.prog 30 [.ro (vS eT115 a0)] [] (vS eT115 r) := by
  refine contract_run Try.func30 (b := bod Try.f30) rfl ent ?_
  unfold fn at h
  obtain ⟨_, h1, h⟩ := bind_cases h
  obtain ⟨r12, h13, h⟩ := bind_cases h
  refine runTo_S (n := 100000) (c := (.code (bod Try.f30))) (K := []) (b := (.code (.loop L0))) (K1 := K0) (t := I0 a0 (List.replicate a0.length (default : T115)) (0 : Int)) (l := [(0, 0)])
    (hs := [hA, .h (.mk 0 a0.length (List.replicate a0.length (([Value.slice none 0 0, Value.int .i64 0, Value.int .i64 0, Value.slice none 0 0] : List Value).map fun z => C.own (.sc z))).flatten), .g (.nilA 0 (own (cs eT115 (List.replicate a0.length (default : T115)))))])
    (ps := [(a0.length : Int) = (a0.length : Int), (a0.length : Int) = (a0.length : Int), a0.length ≤ 281474976710656, 64 * a0.length ≤ 281474976710656, (List.replicate a0.length (([Value.slice none 0 0, Value.int .i64 0, Value.int .i64 0, Value.slice none 0 0] : List Value).map fun z => C.own (.sc z))).flatten = (List.replicate a0.length (([Value.slice none 0 0, Value.int .i64 0, Value.int .i64 0, Value.slice none 0 0] : List Value).map fun z => C.own (.sc z))).flatten, NilRel (List.replicate a0.length (([Value.slice none 0 0, Value.int .i64 0, Value.int .i64 0, Value.slice none 0 0] : List Value).map fun z => C.own (.sc z))).flatten (own (cs eT115 (List.replicate a0.length (default : T115)))), ((vS eT115 a0) : V) = (vS eT115 a0), 0 = 0, a0.length = (List.replicate a0.length (default : T115)).length, (0 : Int) = (0 : Int), (own (cs eT115 (List.replicate a0.length (default : T115)))) = (cs eT115 (List.replicate a0.length (default : T115))).map C.own])
    (by kernel_rfl) ⟨rfl, rfl, by have := (chk_S h1); omega, (chk_S h1), rfl, nil_repl (e := eT115) ⟨.inr ⟨rfl, 6, rfl⟩, .inl rfl, .inl rfl, .inr ⟨rfl, 1, rfl⟩, trivial⟩, rfl, rfl, List.length_replicate.symm, rfl, rfl, trivial⟩ (cut_code ?_)
  refine TW.mono_le (p0_c fuel a0 fuel (List.replicate a0.length (default : T115)) (0 : Int) _ h13) ?_
  rintro e st hq
  obtain ⟨rfl, hl⟩ := hq
  refine ⟨_, hl, ?_⟩
  obtain rfl := Option.some.inj h
  exact runRet_S (r := ⟨Try.f30.results.toList, _, _, _, [(0, (cs eT115 r12), (cs eT115 r12))], 9⟩) (n := 100000) (c := (.out (.exit 0))) (K := K0) (s := (J0_0 a0 r12).sl)
    (hs := [])
    (ps := [(own (cs eT115 r12)) = (cs eT115 r12).map C.own, 0 + r12.length * 4 ≤ (cs eT115 r12).length, ((cs eT115 r12).drop (0)).take (r12.length * 4) = (cs eT115 r12), ((.sl 4 r12.length (cs eT115 r12)) : V) = (vS eT115 r12)])
    (by kernel_rfl) ⟨rfl, len_all (e := eT115) (rfl), take_cs (e := eT115) (rfl), rfl, trivial⟩ rfl (fun _ _ h => h)
end F30
namespace F31
/-! laws.toState -/
def fn (fuel : Nat) (a0 : T44) : Option T44 :=
  (F41.fn fuel a0.f0).bind fun r1 =>
  (F41.fn fuel a0.f1).bind fun r3 =>
  (F41.fn fuel a0.f2).bind fun r5 =>
  some (⟨r1, r3, r5⟩ : T44)
theorem ent : enterable Try.prog 31 = true := by kernel_rfl
theorem fn_c (fuel : Nat) (a0 : T44) (r : T44) (h : fn fuel a0 = some r) : CallOK Try.prog 31 [.ro (.ag (eT44.f a0))] [] (.ag (eT44.f r)) := by
  refine contract_run Try.func31 (b := bod Try.f31) rfl ent ?_
  unfold fn at h
  obtain ⟨r1, h2, h⟩ := bind_cases h
  obtain ⟨r3, h4, h⟩ := bind_cases h
  obtain ⟨r5, h6, h⟩ := bind_cases h
  obtain rfl := Option.some.inj h
  exact runRet_S (r := ⟨Try.f31.results.toList, _, _, _, [(3, (cs eJ r1), (cs eJ r1)), (4, (cs eJ r3), (cs eJ r3)), (5, (cs eJ r5), (cs eJ r5))], 9⟩) (n := 100000) (c := (.code (bod Try.f31))) (K := [])
    (hs := [.h (.new 0), .h (.new 1), .h (.new 2), hA, .call ⟨[.ro], 9, [], true, [], (vS eJ r1), [], 3⟩, hA, hA, .call ⟨[.ro], 9, [], true, [], (vS eJ r3), [], 4⟩, hA, hA, .call ⟨[.ro], 9, [], true, [], (vS eJ r5), [], 5⟩, hA, hA, hA])
    (ps := [CallOK Try.prog 41 [.ro (vS eJ a0.f0)] [] (vS eJ r1), CallOK Try.prog 41 [.ro (vS eJ a0.f1)] [] (vS eJ r3), CallOK Try.prog 41 [.ro (vS eJ a0.f2)] [] (vS eJ r5), (own (cs eJ r1)) = (cs eJ r1).map C.own, 0 + r1.length * 1 ≤ (cs eJ r1).length, ((cs eJ r1).drop (0)).take (r1.length * 1) = (cs eJ r1), (own (cs eJ r3)) = (cs eJ r3).map C.own, 0 + r3.length * 1 ≤ (cs eJ r3).length, ((cs eJ r3).drop (0)).take (r3.length * 1) = (cs eJ r3), (own (cs eJ r5)) = (cs eJ r5).map C.own, 0 + r5.length * 1 ≤ (cs eJ r5).length, ((cs eJ r5).drop (0)).take (r5.length * 1) = (cs eJ r5), ((.ag [(.sl 1 r1.length (cs eJ r1)), (.sl 1 r3.length (cs eJ r3)), (.sl 1 r5.length (cs eJ r5))]) : V) = (.ag (eT44.f (⟨r1, r3, r5⟩ : T44)))])
    (by kernel_rfl) ⟨F41.fn_c fuel a0.f0 _ h2, F41.fn_c fuel a0.f1 _ h4, F41.fn_c fuel a0.f2 _ h6, rfl, len_all (e := eJ) (rfl), take_cs (e := eJ) (rfl), rfl, len_all (e := eJ) (rfl), take_cs (e := eJ) (rfl), rfl, len_all (e := eJ) (rfl), take_cs (e := eJ) (rfl), rfl, trivial⟩ rfl (fun _ _ h => h)
end F31
namespace F97
/-! impl.within -/
def fn (fuel : Nat) (n0 : Int) (low1 : Int) (high2 : Int) : Option Bool :=
  cond (decide (n0 ≥ low1))
  (some (decide (n0 ≤ high2)))
  (some false)
theorem ent : enterable Try.prog 97 = true := by kernel_rfl
theorem fn_c (fuel : Nat) (n0 : Int) (low1 : Int) (high2 : Int) (r : Bool) (h : fn fuel n0 low1 high2 = some r) : CallOK Try.prog 97 [.ro (vI .i64 n0), .ro (vI .i64 low1), .ro (vI .i64 high2)] [] (vB r) := by
  refine contract_run Try.func97 (b := bod Try.f97) rfl ent ?_
  unfold fn at h
  rcases cond_cases h with ⟨h1, h⟩ | ⟨h1, h⟩
  · 
    obtain rfl := Option.some.inj h
    exact runRet_S (r := ⟨Try.f97.results.toList, _, _, _, [], 9⟩) (n := 100000) (c := (.code (bod Try.f97))) (K := [])
      (hs := [hA, .skip, .g (.env 10 (C.v (vB true))), hA])
      (ps := [C.v (vB (decide (n0 ≥ low1))) = C.v (vB true), (decide (n0 ≤ high2) : Bool) = (decide (n0 ≤ high2))])
      (by kernel_rfl) ⟨vbB h1, rfl, trivial⟩ rfl (fun _ _ h => h)
  · 
    obtain rfl := Option.some.inj h
    exact runRet_S (r := ⟨Try.f97.results.toList, _, _, _, [], 9⟩) (n := 100000) (c := (.code (bod Try.f97))) (K := [])
      (hs := [hA, .skip, .g (.env 10 (C.v (vB false)))])
      (ps := [C.v (vB (decide (n0 ≥ low1))) = C.v (vB false), (false : Bool) = false])
      (by kernel_rfl) ⟨vbB h1, rfl, trivial⟩ rfl (fun _ _ h => h)
end F97
namespace F205
/-! impl.isWord -/
def fn (fuel : Nat) (n0 : Int) : Option Bool :=
  (F97.fn fuel n0 0 65535).bind fun r1 =>
  some r1
theorem ent : enterable Try.prog 205 = true := by kernel_rfl
theorem fn_c (fuel : Nat) (n0 : Int) (r : Bool) (h : fn fuel n0 = some r) : CallOK Try.prog 205 [.ro (vI .i64 n0)] [] (vB r) := by
  refine contract_run Try.func205 (b := bod Try.f205) rfl ent ?_
  unfold fn at h
  obtain ⟨r1, h2, h⟩ := bind_cases h
  obtain rfl := Option.some.inj h
  exact runRet_S (r := ⟨Try.f205.results.toList, _, _, _, [], 9⟩) (n := 100000) (c := (.code (bod Try.f205))) (K := [])
    (hs := [.call ⟨[.ro, .ro, .ro], 9, [], true, [], (vB r1), [], 0⟩])
    (ps := [CallOK Try.prog 97 [.ro (vI .i64 n0), .ro (vI .i64 0), .ro (vI .i64 65535)] [] (vB r1), (r1 : Bool) = r1])
    (by kernel_rfl) ⟨F97.fn_c fuel n0 0 65535 _ h2, rfl, trivial⟩ rfl (fun _ _ h => h)
end F205
namespace F204
/-! impl.wordsOK$1 -/
def fn (fuel : Nat) (n0 : Int) : Option Bool :=
  (F205.fn fuel n0).bind fun r1 =>
  some (!r1)
theorem ent : enterable Try.prog 204 = true := by kernel_rfl
theorem fn_c (fuel : Nat) (n0 : Int) (r : Bool) (h : fn fuel n0 = some r) : CallOK Try.prog 204 [.ro (vI .i64 n0)] [] (vB r) := by
  refine contract_run Try.func204 (b := bod Try.f204) rfl ent ?_
  unfold fn at h
  obtain ⟨r1, h2, h⟩ := bind_cases h
  obtain rfl := Option.some.inj h
  exact runRet_S (r := ⟨Try.f204.results.toList, _, _, _, [], 9⟩) (n := 100000) (c := (.code (bod Try.f204))) (K := [])
    (hs := [.call ⟨[.ro], 9, [], true, [], (vB r1), [], 0⟩, hA])
    (ps := [CallOK Try.prog 205 [.ro (vI .i64 n0)] [] (vB r1), (!r1 : Bool) = (!r1)])
    (by kernel_rfl) ⟨F205.fn_c fuel n0 _ h2, rfl, trivial⟩ rfl (fun _ _ h => h)
end F204
namespace F251_204
/-! slices.IndexFunc[[]int,int] -/
noncomputable def K0 := (subC [1, 0, 1, 0] (bod Try.f251) []).2
noncomputable def L0 := (subC [1, 0, 1, 0, 0] (bod Try.f251) []).1
def I0 (s1 : List Int) (v2 : Int) (v3 : Int) : TL := ⟨19, [C.dead, C.fn 204 []], [(0, C.v (vS eJ s1)), (1, C.fn 204 []), (7, C.v (vI .i64 v2)), (8, C.v (vI .i64 v3))], [], []⟩
def J0_0 (s1 : List Int) (v2 : Int) (o : Int) : TL := ⟨19, [C.dead, C.fn 204 []], [(4, C.v (vI .i64 o))], [], []⟩
def J0_1 (s1 : List Int) (v2 : Int) (o : Unit) : TL := ⟨19, [C.dead, C.fn 204 []], [], [], []⟩
def Q0 (s1 : List Int) (v2 : Int) (r : Int ⊕ Unit) (e : Exit) (st : St) : Prop := (Sum.elim (fun o => e = .ret ∧ Le st (J0_0 s1 v2 o).sl.st) (fun o => e = (.exit 0) ∧ Le st (J0_1 s1 v2 o).sl.st)) r
def p0 (fuel : Nat) (s1 : List Int) (v2 : Int) : Nat → Int → Option (Int ⊕ Unit)
  | 0, _ => none
  | n + 1, v3 =>
    cond (decide (v3 < v2))
    ((idx v3 s1.length).bind fun j5 =>
      (F204.fn fuel (s1.getD j5 (0 : Int))).bind fun r7 =>
      cond (r7)
      (some (.inl v3))
      (p0 fuel s1 v2 n (w64 (v3 + 1))))
    (some (.inr ()))
theorem p0_c (fuel : Nat) (s1 : List Int) (v2 : Int) (n : Nat) (v3 : Int) (r : Int ⊕ Unit) (h : p0 fuel s1 v2 n v3 = some r) : TW Try.prog (.loop L0) (I0 s1 v2 v3).sl.st (Q0 s1 v2 r) := by
  refine loop_run (σ := Int) (fun x => I0 s1 v2 x) (fun n x => p0 fuel s1 v2 n x) (Q0 s1 v2) ?_ (fun _ => rfl) (x := v3) h
  clear h
  rintro n v3 r h
  replace h : p0 fuel s1 v2 (n + 1) v3 = some r := h
  rw [p0] at h
  rcases cond_cases h with ⟨h4, h⟩ | ⟨h4, h⟩
  · 
    obtain ⟨j5, h6, h⟩ := bind_cases h
    obtain ⟨r7, h8, h⟩ := bind_cases h
    rcases cond_cases h with ⟨h9, h⟩ | ⟨h9, h⟩
    · 
      obtain rfl := Option.some.inj h
      exact runAt_S (Q := Round _ (n + 1) _) (n := 100000) (c := (.code L0)) (K := []) (s := (I0 s1 v2 v3).sl) (e := .ret) (t := J0_0 s1 v2 v3) (l := [])
        (hs := [hA, .g (.env 9 (C.v (vB true))), .h (.idv j5 (eJ.f (s1.getD j5 (0 : Int)) ++ (cs eJ (s1.drop (j5 + 1))))), hA, .call ⟨[.ro], 9, [], true, [], (vB r7), [], 0⟩, .g (.env 16 (C.v (vB true)))])
        (ps := [C.v (vB (decide (v3 < v2))) = C.v (vB true), v3 = (j5 : Int), j5 < s1.length, (cs eJ s1).drop (j5 * 1) = (eJ.f (s1.getD j5 (0 : Int)) ++ (cs eJ (s1.drop (j5 + 1)))), cs eJ s1 ≠ [], CallOK Try.prog 204 [.ro (vI .i64 (s1.getD j5 (0 : Int)))] [] (vB r7), C.v (vB r7) = C.v (vB true), (v3 : Int) = v3])
        (by kernel_rfl) ⟨vbB h4, (idx_S h6).1, (idx_S h6).2, cs_from (e := eJ) (d := (0 : Int)) (idx_S h6).2, cs_ne (e := eJ) (idx_S h6).2 (by decide), F204.fn_c fuel (s1.getD j5 (0 : Int)) _ h8, vbB h9, rfl, trivial⟩ (fun st hl => ⟨rfl, hl⟩)
    · 
      exact runAt_S (Q := Round _ (n + 1) _) (n := 100000) (c := (.code L0)) (K := []) (s := (I0 s1 v2 v3).sl) (e := .normal) (t := I0 s1 v2 (w64 (v3 + 1))) (l := [])
        (hs := [hA, .g (.env 9 (C.v (vB true))), .h (.idv j5 (eJ.f (s1.getD j5 (0 : Int)) ++ (cs eJ (s1.drop (j5 + 1))))), hA, .call ⟨[.ro], 9, [], true, [], (vB r7), [], 0⟩, .g (.env 16 (C.v (vB false))), hA])
        (ps := [C.v (vB (decide (v3 < v2))) = C.v (vB true), v3 = (j5 : Int), j5 < s1.length, (cs eJ s1).drop (j5 * 1) = (eJ.f (s1.getD j5 (0 : Int)) ++ (cs eJ (s1.drop (j5 + 1)))), cs eJ s1 ≠ [], CallOK Try.prog 204 [.ro (vI .i64 (s1.getD j5 (0 : Int)))] [] (vB r7), C.v (vB r7) = C.v (vB false), ((vS eJ s1) : V) = (vS eJ s1), (v2 : Int) = v2, (w64 (v3 + 1) : Int) = (w64 (v3 + 1))])
        (by kernel_rfl) ⟨vbB h4, (idx_S h6).1, (idx_S h6).2, cs_from (e := eJ) (d := (0 : Int)) (idx_S h6).2, cs_ne (e := eJ) (idx_S h6).2 (by decide), F204.fn_c fuel (s1.getD j5 (0 : Int)) _ h8, vbB h9, rfl, rfl, rfl, trivial⟩ (fun st hl => ⟨n, _, Nat.lt_succ_self n, hl, w64 (v3 + 1), rfl, rfl, h⟩)
  · 
    obtain rfl := Option.some.inj h
    exact runAt_S (Q := Round _ (n + 1) _) (n := 100000) (c := (.code L0)) (K := []) (s := (I0 s1 v2 v3).sl) (e := (.exit 0)) (t := J0_1 s1 v2 ()) (l := [])
      (hs := [hA, .g (.env 9 (C.v (vB false)))])
      (ps := [C.v (vB (decide (v3 < v2))) = C.v (vB false)])
      (by kernel_rfl) ⟨vbB h4, trivial⟩ (fun st hl => ⟨rfl, hl⟩)
def fn (fuel : Nat) (s0 : List Int) : Option Int :=
  (p0 fuel s0 (s0.length : Int) fuel (0 : Int)).bind fun r10 =>
  (Sum.elim (fun y12 => some y12)
  (fun y13 => some (-1))) r10
theorem ent : enterable Try.prog 251 = true := by kernel_rfl
theorem fn_c (fuel : Nat) (s0 : List Int) (r : Int) (h : fn fuel s0 = some r) : CallOK Try.prog 251 [.ro (vS eJ s0), .io (.fn 204 [])] [(.fn 204 [])] (vI .i64 r) := by
  refine contract_run Try.func251 (b := bod Try.f251) rfl ent ?_
  unfold fn at h
  obtain ⟨r10, h11, h⟩ := bind_cases h
  refine runTo_S (n := 100000) (c := (.code (bod Try.f251))) (K := []) (b := (.code (.loop L0))) (K1 := K0) (t := I0 s0 (s0.length : Int) (0 : Int)) (l := [])
    (hs := [hA])
    (ps := [((vS eJ s0) : V) = (vS eJ s0), ((s0.length : Int) : Int) = (s0.length : Int), (0 : Int) = (0 : Int)])
    (by kernel_rfl) ⟨rfl, rfl, rfl, trivial⟩ (cut_code ?_)
  refine TW.mono_le (p0_c fuel s0 (s0.length : Int) fuel (0 : Int) _ h11) ?_
  rcases r10 with y12 | y13
  · 
    replace h := sum_l h
    rintro e st hq
    obtain ⟨rfl, hl⟩ := hq
    refine ⟨_, hl, ?_⟩
    obtain rfl := Option.some.inj h
    exact runRet_S (r := ⟨Try.f251.results.toList, _, _, _, [], 9⟩) (n := 100000) (c := (.out .ret)) (K := K0) (s := (J0_0 s0 (s0.length : Int) y12).sl)
      (hs := [])
      (ps := [(.fn 204 [] : V) = .fn 204 [], (y12 : Int) = y12])
      (by kernel_rfl) ⟨rfl, rfl, trivial⟩ rfl (fun _ _ h => h)
  · 
    replace h := sum_r h
    rintro e st hq
    obtain ⟨rfl, hl⟩ := hq
    refine ⟨_, hl, ?_⟩
    obtain rfl := Option.some.inj h
    exact runRet_S (r := ⟨Try.f251.results.toList, _, _, _, [], 9⟩) (n := 100000) (c := (.out (.exit 0))) (K := K0) (s := (J0_1 s0 (s0.length : Int) y13).sl)
      (hs := [])
      (ps := [(.fn 204 [] : V) = .fn 204 [], ((-1) : Int) = (-1)])
      (by kernel_rfl) ⟨rfl, rfl, trivial⟩ rfl (fun _ _ h => h)
end F251_204
namespace F203_204
/-! slices.ContainsFunc[[]int,int] -/
def fn (fuel : Nat) (s0 : List Int) : Option Bool :=
  (F251_204.fn fuel s0).bind fun r1 =>
  some (decide (r1 ≥ 0))
theorem ent : enterable Try.prog 203 = true := by kernel_rfl
theorem fn_c (fuel : Nat) (s0 : List Int) (r : Bool) (h : fn fuel s0 = some r) : CallOK Try.prog 203 [.ro (vS eJ s0), .io (.fn 204 [])] [(.fn 204 [])] (vB r) := by
  refine contract_run Try.func203 (b := bod Try.f203) rfl ent ?_
  unfold fn at h
  obtain ⟨r1, h2, h⟩ := bind_cases h
  obtain rfl := Option.some.inj h
  exact runRet_S (r := ⟨Try.f203.results.toList, _, _, _, [], 9⟩) (n := 100000) (c := (.code (bod Try.f203))) (K := [])
    (hs := [.call ⟨[.ro, (.io none)], 9, [], true, [(.fn 204 [])], (vI .i64 r1), [], 0⟩, hA])
    (ps := [CallOK Try.prog 251 [.ro (vS eJ s0), .io (.fn 204 [])] [(.fn 204 [])] (vI .i64 r1), (.fn 204 [] : V) = .fn 204 [], (decide (r1 ≥ 0) : Bool) = (decide (r1 ≥ 0))])
    (by kernel_rfl) ⟨F251_204.fn_c fuel s0 _ h2, rfl, rfl, trivial⟩ rfl (fun _ _ h => h)
end F203_204
namespace F134
/-! impl.wordsOK -/
def fn (fuel : Nat) (l0 : List Int) : Option Bool :=
  (F203_204.fn fuel l0).bind fun r1 =>
  some (!r1)
theorem ent : enterable Try.prog 134 = true := by kernel_rfl
theorem fn_c (fuel : Nat) (l0 : List Int) (r : Bool) (h : fn fuel l0 = some r) : CallOK Try.prog 134 [.ro (vS eJ l0)] [] (vB r) := by
  refine contract_run Try.func134 (b := bod Try.f134) rfl ent ?_
  unfold fn at h
  obtain ⟨r1, h2, h⟩ := bind_cases h
  obtain rfl := Option.some.inj h
  exact runRet_S (r := ⟨Try.f134.results.toList, _, _, _, [], 9⟩) (n := 100000) (c := (.code (bod Try.f134))) (K := [])
    (hs := [.call ⟨[.ro, (.io none)], 9, [], true, [(.fn 204 [])], (vB r1), [], 0⟩, hA])
    (ps := [CallOK Try.prog 203 [.ro (vS eJ l0), .io (.fn 204 [])] [(.fn 204 [])] (vB r1), (!r1 : Bool) = (!r1)])
    (by kernel_rfl) ⟨F203_204.fn_c fuel l0 _ h2, rfl, trivial⟩ rfl (fun _ _ h => h)
end F134
namespace F70
/-! impl.GoodState -/
def fn (fuel : Nat) (s0 : T44) : Option Bool :=
  cond (decide ((s0.f0.length : Int) = 8))
  (cond (decide ((s0.f1.length : Int) = 16))
    (cond (decide ((s0.f2.length : Int) ≤ 100))
      ((F134.fn fuel s0.f0).bind fun r4 =>
        cond (r4)
        ((F134.fn fuel s0.f1).bind fun r7 =>
          cond (r7)
          ((F134.fn fuel s0.f2).bind fun r10 =>
            some r10)
          (some false))
        (some false))
      (some false))
    (some false))
  (some false)
theorem ent : enterable Try.prog 70 = true := by kernel_rfl
theorem fn_c (fuel : Nat) (s0 : T44) (r : Bool) (h : fn fuel s0 = some r) : CallOK Try.prog 70 [.ro (.ag (eT44.f s0))] [] (vB r) := by
  refine contract_run Try.func70 (b := bod Try.f70) rfl ent ?_
  unfold fn at h
  rcases cond_cases h with ⟨h1, h⟩ | ⟨h1, h⟩
  · 
    rcases cond_cases h with ⟨h2, h⟩ | ⟨h2, h⟩
    · 
      rcases cond_cases h with ⟨h3, h⟩ | ⟨h3, h⟩
      · 
        obtain ⟨r4, h5, h⟩ := bind_cases h
        rcases cond_cases h with ⟨h6, h⟩ | ⟨h6, h⟩
        · 
          obtain ⟨r7, h8, h⟩ := bind_cases h
          rcases cond_cases h with ⟨h9, h⟩ | ⟨h9, h⟩
          · 
            obtain ⟨r10, h11, h⟩ := bind_cases h
            obtain rfl := Option.some.inj h
            exact runRet_S (r := ⟨Try.f70.results.toList, _, _, _, [], 9⟩) (n := 100000) (c := (.code (bod Try.f70))) (K := [])
              (hs := [.h (.new 0), hA, hA, hA, .skip, .g (.env 7 (C.v (vB true))), hA, hA, hA, .skip, .skip, .g (.env 13 (C.v (vB true))), hA, hA, hA, .skip, .skip, .g (.env 19 (C.v (vB true))), hA, .call ⟨[.ro], 9, [], true, [], (vB r4), [], 1⟩, .skip, .skip, .g (.env 24 (C.v (vB true))), hA, .call ⟨[.ro], 9, [], true, [], (vB r7), [], 1⟩, .skip, .skip, .g (.env 29 (C.v (vB true))), hA, .call ⟨[.ro], 9, [], true, [], (vB r10), [], 1⟩])
              (ps := [C.v (vB (decide ((s0.f0.length : Int) = 8))) = C.v (vB true), C.v (vB (decide ((s0.f1.length : Int) = 16))) = C.v (vB true), C.v (vB (decide ((s0.f2.length : Int) ≤ 100))) = C.v (vB true), CallOK Try.prog 134 [.ro (vS eJ s0.f0)] [] (vB r4), C.v (vB r4) = C.v (vB true), CallOK Try.prog 134 [.ro (vS eJ s0.f1)] [] (vB r7), C.v (vB r7) = C.v (vB true), CallOK Try.prog 134 [.ro (vS eJ s0.f2)] [] (vB r10), (r10 : Bool) = r10])
              (by kernel_rfl) ⟨vbB h1, vbB h2, vbB h3, F134.fn_c fuel s0.f0 _ h5, vbB h6, F134.fn_c fuel s0.f1 _ h8, vbB h9, F134.fn_c fuel s0.f2 _ h11, rfl, trivial⟩ rfl (fun _ _ h => h)
          · 
            obtain rfl := Option.some.inj h
            exact runRet_S (r := ⟨Try.f70.results.toList, _, _, _, [], 9⟩) (n := 100000) (c := (.code (bod Try.f70))) (K := [])
              (hs := [.h (.new 0), hA, hA, hA, .skip, .g (.env 7 (C.v (vB true))), hA, hA, hA, .skip, .skip, .g (.env 13 (C.v (vB true))), hA, hA, hA, .skip, .skip, .g (.env 19 (C.v (vB true))), hA, .call ⟨[.ro], 9, [], true, [], (vB r4), [], 1⟩, .skip, .skip, .g (.env 24 (C.v (vB true))), hA, .call ⟨[.ro], 9, [], true, [], (vB r7), [], 1⟩, .skip, .skip, .g (.env 29 (C.v (vB false)))])
              (ps := [C.v (vB (decide ((s0.f0.length : Int) = 8))) = C.v (vB true), C.v (vB (decide ((s0.f1.length : Int) = 16))) = C.v (vB true), C.v (vB (decide ((s0.f2.length : Int) ≤ 100))) = C.v (vB true), CallOK Try.prog 134 [.ro (vS eJ s0.f0)] [] (vB r4), C.v (vB r4) = C.v (vB true), CallOK Try.prog 134 [.ro (vS eJ s0.f1)] [] (vB r7), C.v (vB r7) = C.v (vB false), (false : Bool) = false])
              (by kernel_rfl) ⟨vbB h1, vbB h2, vbB h3, F134.fn_c fuel s0.f0 _ h5, vbB h6, F134.fn_c fuel s0.f1 _ h8, vbB h9, rfl, trivial⟩ rfl (fun _ _ h => h)
        · 
          obtain rfl := Option.some.inj h
          exact runRet_S (r := ⟨Try.f70.results.toList, _, _, _, [], 9⟩) (n := 100000) (c := (.code (bod Try.f70))) (K := [])
            (hs := [.h (.new 0), hA, hA, hA, .skip, .g (.env 7 (C.v (vB true))), hA, hA, hA, .skip, .skip, .g (.env 13 (C.v (vB true))), hA, hA, hA, .skip, .skip, .g (.env 19 (C.v (vB true))), hA, .call ⟨[.ro], 9, [], true, [], (vB r4), [], 1⟩, .skip, .skip, .g (.env 24 (C.v (vB false)))])
            (ps := [C.v (vB (decide ((s0.f0.length : Int) = 8))) = C.v (vB true), C.v (vB (decide ((s0.f1.length : Int) = 16))) = C.v (vB true), C.v (vB (decide ((s0.f2.length : Int) ≤ 100))) = C.v (vB true), CallOK Try.prog 134 [.ro (vS eJ s0.f0)] [] (vB r4), C.v (vB r4) = C.v (vB false), (false : Bool) = false])
            (by kernel_rfl) ⟨vbB h1, vbB h2, vbB h3, F134.fn_c fuel s0.f0 _ h5, vbB h6, rfl, trivial⟩ rfl (fun _ _ h => h)
      · 
        obtain rfl := Option.some.inj h
        exact runRet_S (r := ⟨Try.f70.results.toList, _, _, _, [], 9⟩) (n := 100000) (c := (.code (bod Try.f70))) (K := [])
          (hs := [.h (.new 0), hA, hA, hA, .skip, .g (.env 7 (C.v (vB true))), hA, hA, hA, .skip, .skip, .g (.env 13 (C.v (vB true))), hA, hA, hA, .skip, .skip, .g (.env 19 (C.v (vB false)))])
          (ps := [C.v (vB (decide ((s0.f0.length : Int) = 8))) = C.v (vB true), C.v (vB (decide ((s0.f1.length : Int) = 16))) = C.v (vB true), C.v (vB (decide ((s0.f2.length : Int) ≤ 100))) = C.v (vB false), (false : Bool) = false])
          (by kernel_rfl) ⟨vbB h1, vbB h2, vbB h3, rfl, trivial⟩ rfl (fun _ _ h => h)
    · 
      obtain rfl := Option.some.inj h
      exact runRet_S (r := ⟨Try.f70.results.toList, _, _, _, [], 9⟩) (n := 100000) (c := (.code (bod Try.f70))) (K := [])
        (hs := [.h (.new 0), hA, hA, hA, .skip, .g (.env 7 (C.v (vB true))), hA, hA, hA, .skip, .skip, .g (.env 13 (C.v (vB false)))])
        (ps := [C.v (vB (decide ((s0.f0.length : Int) = 8))) = C.v (vB true), C.v (vB (decide ((s0.f1.length : Int) = 16))) = C.v (vB false), (false : Bool) = false])
        (by kernel_rfl) ⟨vbB h1, vbB h2, rfl, trivial⟩ rfl (fun _ _ h => h)
  · 
    obtain rfl := Option.some.inj h
    exact runRet_S (r := ⟨Try.f70.results.toList, _, _, _, [], 9⟩) (n := 100000) (c := (.code (bod Try.f70))) (K := [])
      (hs := [.h (.new 0), hA, hA, hA, .skip, .g (.env 7 (C.v (vB false)))])
      (ps := [C.v (vB (decide ((s0.f0.length : Int) = 8))) = C.v (vB false), (false : Bool) = false])
      (by kernel_rfl) ⟨vbB h1, rfl, trivial⟩ rfl (fun _ _ h => h)
end F70
end Go.Eng
