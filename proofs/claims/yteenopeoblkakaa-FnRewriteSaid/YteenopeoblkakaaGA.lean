/-
  The functions that the law reaches, each as a plain function over lists and numbers, and each one's contract: where the plain function answers, the code returns that answer. Conditions: none beyond what each contract says.
-/
import Derived.Test.YteenopeoblkakaaEC
import Derived.Test.YteenopeoblkakaaProg
import Derived.KernelRfl
set_option linter.unusedVariables false
set_option linter.unusedSimpArgs false
set_option linter.unnecessarySimpa false
set_option linter.unusedVariables false
set_option linter.unusedSimpArgs false
set_option maxRecDepth 100000
set_option maxHeartbeats 1000000
namespace Go.Eng
open Go.Proofs
/-- spec.l1Cur -/
structure T108 where
  f0 : List Int
  f1 : Int
  f2 : Int
instance : Inhabited T108 := ⟨⟨([] : List Int), (0 : Int), (0 : Int)⟩⟩
def eT108 : Enc T108 := ⟨3, fun x => [(.im (vS (eI .u8) x.f0)), (vI .i64 x.f1), (vI .u64 x.f2)], fun _ => rfl⟩
def T108.s0 (x : T108) (v : List Int) : T108 := ⟨v, x.f1, x.f2⟩
def T108.s1 (x : T108) (v : Int) : T108 := ⟨x.f0, v, x.f2⟩
def T108.s2 (x : T108) (v : Int) : T108 := ⟨x.f0, x.f1, v⟩
instance : OneE eT108 := ⟨fun _ => rfl⟩
/-- impl.Rule -/
structure T174 where
  f0 : ByteArray
  f1 : ByteArray
instance : Inhabited T174 := ⟨⟨ByteArray.empty, ByteArray.empty⟩⟩
def eT174 : Enc T174 := ⟨2, fun x => [(vT x.f0), (vT x.f1)], fun _ => rfl⟩
def T174.s0 (x : T174) (v : ByteArray) : T174 := ⟨v, x.f1⟩
def T174.s1 (x : T174) (v : ByteArray) : T174 := ⟨x.f0, v⟩
instance : OneE eT174 := ⟨fun _ => rfl⟩
instance : SCE eT174 := ⟨fun _ => rfl⟩
instance : NI eT174 := ⟨fun x => by simp [eT174, noImL, noIm]⟩
namespace F149
/-! (*spec.l1Cur).next -/
noncomputable def K0 := (subC [1, 1, 0, 1] (bod Try.f149) []).2
noncomputable def B0 := (subC [1, 1, 0, 1] (bod Try.f149) []).1
def I0 (v1 : List Int) (v2 : Int) (v3 : Int) (v4 : Bool) : TL := ⟨62, [C.pr 0 0], [(0, C.pr 0 0), (3, C.v (vI .i64 0)), (13, C.v (vB v4))], [], [(0, [C.own (.im (vS (eI .u8) v1)), C.own (vI .i64 v2), C.own (vI .u64 v3)])]⟩
def J0_0 (v1 : List Int) (v2 : Int) (v3 : Int) (v4 : Bool) (o : Int) : TL := ⟨62, [C.pr 0 0], [(0, C.pr 0 0), (3, C.v (vI .i64 o))], [], [(0, [C.own (.im (vS (eI .u8) v1)), C.own (vI .i64 v2), C.own (vI .u64 v3)])]⟩
def Q0 (v1 : List Int) (v2 : Int) (v3 : Int) (v4 : Bool) (r : Int) (e : Exit) (st : St) : Prop := (fun o => e = .normal ∧ Le st (J0_0 v1 v2 v3 v4 o).sl.st) r
def p0 (fuel : Nat) (v1 : List Int) (v2 : Int) (v3 : Int) (v4 : Bool) : Option Int :=
  cond (v4)
  ((idx v2 v1.length).bind fun j6 =>
    some (w64 ((v1.getD j6 (0 : Int)))))
  (some (0 : Int))
theorem p0_c (fuel : Nat) (v1 : List Int) (v2 : Int) (v3 : Int) (v4 : Bool) (r : Int) (h : p0 fuel v1 v2 v3 v4 = some r) : TW Try.prog B0 (I0 v1 v2 v3 v4).sl.st (Q0 v1 v2 v3 v4 r) := by
  unfold p0 at h
  rcases cond_cases h with ⟨h5, h⟩ | ⟨h5, h⟩
  · 
    obtain ⟨j6, h7, h⟩ := bind_cases h
    obtain rfl := Option.some.inj h
    exact runAt_S (Q := Q0 v1 v2 v3 v4 _) (n := 100000) (c := (.code B0)) (K := []) (s := (I0 v1 v2 v3 v4).sl) (e := .normal) (t := J0_0 v1 v2 v3 v4 (w64 ((v1.getD j6 (0 : Int))))) (l := [(0, 0)])
      (hs := [.g (.env 13 (C.v (vB true))), .any [[], [], [], [], [], [], [], [], [], [], [], []], hA, hA, .h (.idv j6 ((eI .u8).f (v1.getD j6 (0 : Int)) ++ (cs (eI .u8) (v1.drop (j6 + 1))))), hA, hA])
      (ps := [C.v (vB v4) = C.v (vB true), v2 = (j6 : Int), j6 < v1.length, (cs (eI .u8) v1).drop (j6 * 1) = ((eI .u8).f (v1.getD j6 (0 : Int)) ++ (cs (eI .u8) (v1.drop (j6 + 1)))), cs (eI .u8) v1 ≠ [], 0 = 0, 0 = 0, (w64 ((v1.getD j6 (0 : Int))) : Int) = (w64 ((v1.getD j6 (0 : Int)))), (V.im (vS (eI .u8) v1)) = V.im (vS (eI .u8) v1), (v2 : Int) = v2, (v3 : Int) = v3])
      (by kernel_rfl) ⟨vbB h5, (idx_S h7).1, (idx_S h7).2, cs_from (e := (eI .u8)) (d := (0 : Int)) (idx_S h7).2, cs_ne (e := (eI .u8)) (idx_S h7).2 (by decide), rfl, rfl, rfl, rfl, rfl, rfl, trivial⟩ (fun st hl => ⟨rfl, hl⟩)
  · 
    obtain rfl := Option.some.inj h
    exact runAt_S (Q := Q0 v1 v2 v3 v4 _) (n := 100000) (c := (.code B0)) (K := []) (s := (I0 v1 v2 v3 v4).sl) (e := .normal) (t := J0_0 v1 v2 v3 v4 (0 : Int)) (l := [(0, 0)])
      (hs := [.g (.env 13 (C.v (vB false)))])
      (ps := [C.v (vB v4) = C.v (vB false), 0 = 0, 0 = 0, (0 : Int) = (0 : Int), (V.im (vS (eI .u8) v1)) = V.im (vS (eI .u8) v1), (v2 : Int) = v2, (v3 : Int) = v3])
      (by kernel_rfl) ⟨vbB h5, rfl, rfl, rfl, rfl, rfl, rfl, trivial⟩ (fun st hl => ⟨rfl, hl⟩)
def fn (fuel : Nat) (c0 : T108) : Option (Int × T108) :=
  (p0 fuel c0.f0 c0.f1 c0.f2 (decide (c0.f1 < (c0.f0.length : Int)))).bind fun r8 =>
  cond (decide (w64 (c0.f1 + 1) ≤ (c0.f0.length : Int)))
  (some (r8, (⟨c0.f0, w64 (c0.f1 + 1), IntKind.u64.wrap ((IntKind.u64.wrap ((IntKind.u64.wrap (c0.f2 * 6364136223846793005)) + (IntKind.u64.wrap (r8)))) + 1442695040888963407)⟩ : T108)))
  (some (w64 (bitAnd .u64 (Int.fdiv (IntKind.u64.wrap ((IntKind.u64.wrap ((IntKind.u64.wrap (c0.f2 * 6364136223846793005)) + (IntKind.u64.wrap (r8)))) + 1442695040888963407)) (2 ^ 40)) 255), (⟨c0.f0, w64 (c0.f1 + 1), IntKind.u64.wrap ((IntKind.u64.wrap ((IntKind.u64.wrap (c0.f2 * 6364136223846793005)) + (IntKind.u64.wrap (r8)))) + 1442695040888963407)⟩ : T108)))
theorem ent : enterable Try.prog 149 = true := by kernel_rfl
theorem fn_c (fuel : Nat) (c0 : T108) (r : Int × T108) (h : fn fuel c0 = some r) : CallOK Try.prog 149 [.io (.bx (eT108.f c0))] [(.bx (eT108.f r.2))] (vI .i64 r.1) := by
  refine contract_run Try.func149 (b := bod Try.f149) rfl ent ?_
  unfold fn at h
  obtain ⟨r8, h9, h⟩ := bind_cases h
  refine runTo_S (n := 10) (c := (.code (bod Try.f149))) (K := []) (b := (.code B0)) (K1 := K0) (t := I0 c0.f0 c0.f1 c0.f2 (decide (c0.f1 < (c0.f0.length : Int)))) (l := [(0, 0)])
    (hs := [.any [[], [], [], [], [], [], [], [], [], []], hA, hA, hA, hA])
    (ps := [0 = 0, 0 = 0, (0 : Int) = 0, (decide (c0.f1 < (c0.f0.length : Int)) : Bool) = (decide (c0.f1 < (c0.f0.length : Int))), (V.im (vS (eI .u8) c0.f0)) = V.im (vS (eI .u8) c0.f0), (c0.f1 : Int) = c0.f1, (c0.f2 : Int) = c0.f2])
    (by kernel_rfl) ⟨rfl, rfl, rfl, rfl, rfl, rfl, rfl, trivial⟩ (cut_code ?_)
  refine TW.mono_le (p0_c fuel c0.f0 c0.f1 c0.f2 (decide (c0.f1 < (c0.f0.length : Int))) _ h9) ?_
  rintro e st hq
  obtain ⟨rfl, hl⟩ := hq
  refine ⟨_, hl, ?_⟩
  rcases cond_cases h with ⟨h10, h⟩ | ⟨h10, h⟩
  · 
    obtain rfl := Option.some.inj h
    exact runRet_S (r := ⟨Try.f149.results.toList, _, _, _, [], 9⟩) (n := 100000) (c := (.out .normal)) (K := K0) (s := (J0_0 c0.f0 c0.f1 c0.f2 (decide (c0.f1 < (c0.f0.length : Int))) r8).sl)
      (hs := [hA, hA, hA, hA, hA, hA, hA, hA, hA, .any [[], [], [], [], [], [], [], [], [], []], hA, hA, hA, hA, .g (.env 53 (C.v (vB true)))])
      (ps := [C.v (vB (decide (w64 (c0.f1 + 1) ≤ (c0.f0.length : Int)))) = C.v (vB true), ((.bx [(.im (vS (eI .u8) c0.f0)), (vI .i64 (w64 (c0.f1 + 1))), (vI .u64 (IntKind.u64.wrap ((IntKind.u64.wrap ((IntKind.u64.wrap (c0.f2 * 6364136223846793005)) + (IntKind.u64.wrap (r8)))) + 1442695040888963407)))]) : V) = (.bx (eT108.f (⟨c0.f0, w64 (c0.f1 + 1), IntKind.u64.wrap ((IntKind.u64.wrap ((IntKind.u64.wrap (c0.f2 * 6364136223846793005)) + (IntKind.u64.wrap (r8)))) + 1442695040888963407)⟩ : T108))), (r8 : Int) = r8])
      (by kernel_rfl) ⟨vbB h10, rfl, rfl, trivial⟩ rfl (fun _ _ h => h)
  · 
    obtain rfl := Option.some.inj h
    exact runRet_S (r := ⟨Try.f149.results.toList, _, _, _, [], 9⟩) (n := 100000) (c := (.out .normal)) (K := K0) (s := (J0_0 c0.f0 c0.f1 c0.f2 (decide (c0.f1 < (c0.f0.length : Int))) r8).sl)
      (hs := [hA, hA, hA, hA, hA, hA, hA, hA, hA, .any [[], [], [], [], [], [], [], [], [], []], hA, hA, hA, hA, .g (.env 53 (C.v (vB false))), hA, hA, hA, hA])
      (ps := [C.v (vB (decide (w64 (c0.f1 + 1) ≤ (c0.f0.length : Int)))) = C.v (vB false), ((.bx [(.im (vS (eI .u8) c0.f0)), (vI .i64 (w64 (c0.f1 + 1))), (vI .u64 (IntKind.u64.wrap ((IntKind.u64.wrap ((IntKind.u64.wrap (c0.f2 * 6364136223846793005)) + (IntKind.u64.wrap (r8)))) + 1442695040888963407)))]) : V) = (.bx (eT108.f (⟨c0.f0, w64 (c0.f1 + 1), IntKind.u64.wrap ((IntKind.u64.wrap ((IntKind.u64.wrap (c0.f2 * 6364136223846793005)) + (IntKind.u64.wrap (r8)))) + 1442695040888963407)⟩ : T108))), (w64 (bitAnd .u64 (Int.fdiv (IntKind.u64.wrap ((IntKind.u64.wrap ((IntKind.u64.wrap (c0.f2 * 6364136223846793005)) + (IntKind.u64.wrap (r8)))) + 1442695040888963407)) (2 ^ 40)) 255) : Int) = (w64 (bitAnd .u64 (Int.fdiv (IntKind.u64.wrap ((IntKind.u64.wrap ((IntKind.u64.wrap (c0.f2 * 6364136223846793005)) + (IntKind.u64.wrap (r8)))) + 1442695040888963407)) (2 ^ 40)) 255))])
      (by kernel_rfl) ⟨vbB h10, rfl, rfl, trivial⟩ rfl (fun _ _ h => h)
end F149
namespace F88
/-! (*spec.l1Cur).pick -/
def fn (fuel : Nat) (c0 : T108) (n1 : Int) : Option (Int × T108) :=
  cond (decide (n1 ≤ 1))
  (some (0, c0))
  ((F149.fn fuel c0).bind fun r2 =>
    cond (decide (n1 > 200))
    ((F149.fn fuel r2.2).bind fun r5 =>
      (chk (n1 ≠ 0)).bind fun _ =>
      some (Int.tmod (w64 ((w64 (r2.1 * 256)) + r5.1)) n1, r5.2))
    ((chk (n1 ≠ 0)).bind fun _ =>
      some (Int.tmod r2.1 n1, r2.2)))
theorem ent : enterable Try.prog 88 = true := by kernel_rfl
theorem fn_c (fuel : Nat) (c0 : T108) (n1 : Int) (r : Int × T108) (h : fn fuel c0 n1 = some r) : CallOK Try.prog 88 [.io (.bx (eT108.f c0)), .ro (vI .i64 n1)] [(.bx (eT108.f r.2))] (vI .i64 r.1) := by
  refine contract_run Try.func88 (b := bod Try.f88) rfl ent ?_
  unfold fn at h
  rcases cond_cases h with ⟨h1, h⟩ | ⟨h1, h⟩
  · 
    obtain rfl := Option.some.inj h
    exact runRet_S (r := ⟨Try.f88.results.toList, _, _, _, [], 9⟩) (n := 100000) (c := (.code (bod Try.f88))) (K := [])
      (hs := [hA, .g (.env 7 (C.v (vB true)))])
      (ps := [C.v (vB (decide (n1 ≤ 1))) = C.v (vB true), ((.bx [(.im (vS (eI .u8) c0.f0)), (vI .i64 c0.f1), (vI .u64 c0.f2)]) : V) = (.bx (eT108.f c0)), (0 : Int) = 0])
      (by kernel_rfl) ⟨vbB h1, rfl, rfl, trivial⟩ rfl (fun _ _ h => h)
  · 
    obtain ⟨r2, h3, h⟩ := bind_cases h
    rcases cond_cases h with ⟨h4, h⟩ | ⟨h4, h⟩
    · 
      obtain ⟨r5, h6, h⟩ := bind_cases h
      obtain ⟨_, h7, h⟩ := bind_cases h
      obtain rfl := Option.some.inj h
      exact runRet_S (r := ⟨Try.f88.results.toList, _, _, _, [], 9⟩) (n := 100000) (c := (.code (bod Try.f88))) (K := [])
        (hs := [hA, .g (.env 7 (C.v (vB false))), .call ⟨[(.io none)], 9, [], true, [(.bx (eT108.f r2.2))], (vI .i64 r2.1), [[C.own (.im (vS (eI .u8) r2.2.f0)), C.own (vI .i64 r2.2.f1), C.own (vI .u64 r2.2.f2)]], 1⟩, hA, .g (.env 11 (C.v (vB true))), hA, .call ⟨[(.io none)], 9, [], true, [(.bx (eT108.f r5.2))], (vI .i64 r5.1), [[C.own (.im (vS (eI .u8) r5.2.f0)), C.own (vI .i64 r5.2.f1), C.own (vI .u64 r5.2.f2)]], 1⟩, hA, .h .dv])
        (ps := [C.v (vB (decide (n1 ≤ 1))) = C.v (vB false), CallOK Try.prog 149 [.io (.bx [(.im (vS (eI .u8) c0.f0)), (vI .i64 c0.f1), (vI .u64 c0.f2)])] [(.bx (eT108.f r2.2))] (vI .i64 r2.1), ((eT108.f r2.2) : List V).length = 3, ((eT108.f r2.2) : List V).length = 3 ∨ ([C.own (.im (vS (eI .u8) c0.f0)), C.own (vI .i64 c0.f1), C.own (vI .u64 c0.f2)] : List C).length ≤ 0 + 3, ([C.own (.im (vS (eI .u8) c0.f0)), C.own (vI .i64 c0.f1), C.own (vI .u64 c0.f2)] : List C).take 0 ++ ((eT108.f r2.2) : List V).map C.own ++ ([C.own (.im (vS (eI .u8) c0.f0)), C.own (vI .i64 c0.f1), C.own (vI .u64 c0.f2)] : List C).drop (0 + 3) = [C.own (.im (vS (eI .u8) r2.2.f0)), C.own (vI .i64 r2.2.f1), C.own (vI .u64 r2.2.f2)], C.v (vB (decide (n1 > 200))) = C.v (vB true), CallOK Try.prog 149 [.io (.bx [(.im (vS (eI .u8) r2.2.f0)), (vI .i64 r2.2.f1), (vI .u64 r2.2.f2)])] [(.bx (eT108.f r5.2))] (vI .i64 r5.1), ((eT108.f r5.2) : List V).length = 3, ((eT108.f r5.2) : List V).length = 3 ∨ ([C.own (.im (vS (eI .u8) r2.2.f0)), C.own (vI .i64 r2.2.f1), C.own (vI .u64 r2.2.f2)] : List C).length ≤ 0 + 3, ([C.own (.im (vS (eI .u8) r2.2.f0)), C.own (vI .i64 r2.2.f1), C.own (vI .u64 r2.2.f2)] : List C).take 0 ++ ((eT108.f r5.2) : List V).map C.own ++ ([C.own (.im (vS (eI .u8) r2.2.f0)), C.own (vI .i64 r2.2.f1), C.own (vI .u64 r2.2.f2)] : List C).drop (0 + 3) = [C.own (.im (vS (eI .u8) r5.2.f0)), C.own (vI .i64 r5.2.f1), C.own (vI .u64 r5.2.f2)], n1 ≠ 0, ((.bx [(.im (vS (eI .u8) r5.2.f0)), (vI .i64 r5.2.f1), (vI .u64 r5.2.f2)]) : V) = (.bx (eT108.f r5.2)), (Int.tmod (w64 ((w64 (r2.1 * 256)) + r5.1)) n1 : Int) = (Int.tmod (w64 ((w64 (r2.1 * 256)) + r5.1)) n1)])
        (by kernel_rfl) ⟨vbB h1, F149.fn_c fuel c0 _ h3, rfl, .inl rfl, rfl, vbB h4, F149.fn_c fuel r2.2 _ h6, rfl, .inl rfl, rfl, (chk_S h7), rfl, rfl, trivial⟩ rfl (fun _ _ h => h)
    · 
      obtain ⟨_, h8, h⟩ := bind_cases h
      obtain rfl := Option.some.inj h
      exact runRet_S (r := ⟨Try.f88.results.toList, _, _, _, [], 9⟩) (n := 100000) (c := (.code (bod Try.f88))) (K := [])
        (hs := [hA, .g (.env 7 (C.v (vB false))), .call ⟨[(.io none)], 9, [], true, [(.bx (eT108.f r2.2))], (vI .i64 r2.1), [[C.own (.im (vS (eI .u8) r2.2.f0)), C.own (vI .i64 r2.2.f1), C.own (vI .u64 r2.2.f2)]], 1⟩, hA, .g (.env 11 (C.v (vB false))), .h .dv])
        (ps := [C.v (vB (decide (n1 ≤ 1))) = C.v (vB false), CallOK Try.prog 149 [.io (.bx [(.im (vS (eI .u8) c0.f0)), (vI .i64 c0.f1), (vI .u64 c0.f2)])] [(.bx (eT108.f r2.2))] (vI .i64 r2.1), ((eT108.f r2.2) : List V).length = 3, ((eT108.f r2.2) : List V).length = 3 ∨ ([C.own (.im (vS (eI .u8) c0.f0)), C.own (vI .i64 c0.f1), C.own (vI .u64 c0.f2)] : List C).length ≤ 0 + 3, ([C.own (.im (vS (eI .u8) c0.f0)), C.own (vI .i64 c0.f1), C.own (vI .u64 c0.f2)] : List C).take 0 ++ ((eT108.f r2.2) : List V).map C.own ++ ([C.own (.im (vS (eI .u8) c0.f0)), C.own (vI .i64 c0.f1), C.own (vI .u64 c0.f2)] : List C).drop (0 + 3) = [C.own (.im (vS (eI .u8) r2.2.f0)), C.own (vI .i64 r2.2.f1), C.own (vI .u64 r2.2.f2)], C.v (vB (decide (n1 > 200))) = C.v (vB false), n1 ≠ 0, ((.bx [(.im (vS (eI .u8) r2.2.f0)), (vI .i64 r2.2.f1), (vI .u64 r2.2.f2)]) : V) = (.bx (eT108.f r2.2)), (Int.tmod r2.1 n1 : Int) = (Int.tmod r2.1 n1)])
        (by kernel_rfl) ⟨vbB h1, F149.fn_c fuel c0 _ h3, rfl, .inl rfl, rfl, vbB h4, (chk_S h8), rfl, rfl, trivial⟩ rfl (fun _ _ h => h)
end F88
namespace F87
/-! (*spec.l1Cur).one -/
def fn (fuel : Nat) (c0 : T108) (n1 : Int) : Option (Bool × T108) :=
  (F88.fn fuel c0 n1).bind fun r1 =>
  some (decide (r1.1 = 0), r1.2)
theorem ent : enterable Try.prog 87 = true := by kernel_rfl
theorem fn_c (fuel : Nat) (c0 : T108) (n1 : Int) (r : Bool × T108) (h : fn fuel c0 n1 = some r) : CallOK Try.prog 87 [.io (.bx (eT108.f c0)), .ro (vI .i64 n1)] [(.bx (eT108.f r.2))] (vB r.1) := by
  refine contract_run Try.func87 (b := bod Try.f87) rfl ent ?_
  unfold fn at h
  obtain ⟨r1, h2, h⟩ := bind_cases h
  obtain rfl := Option.some.inj h
  exact runRet_S (r := ⟨Try.f87.results.toList, _, _, _, [], 9⟩) (n := 100000) (c := (.code (bod Try.f87))) (K := [])
    (hs := [.call ⟨[(.io none), .ro], 9, [], true, [(.bx (eT108.f r1.2))], (vI .i64 r1.1), [[C.own (.im (vS (eI .u8) r1.2.f0)), C.own (vI .i64 r1.2.f1), C.own (vI .u64 r1.2.f2)]], 1⟩, hA])
    (ps := [CallOK Try.prog 88 [.io (.bx [(.im (vS (eI .u8) c0.f0)), (vI .i64 c0.f1), (vI .u64 c0.f2)]), .ro (vI .i64 n1)] [(.bx (eT108.f r1.2))] (vI .i64 r1.1), ((eT108.f r1.2) : List V).length = 3, ((eT108.f r1.2) : List V).length = 3 ∨ ([C.own (.im (vS (eI .u8) c0.f0)), C.own (vI .i64 c0.f1), C.own (vI .u64 c0.f2)] : List C).length ≤ 0 + 3, ([C.own (.im (vS (eI .u8) c0.f0)), C.own (vI .i64 c0.f1), C.own (vI .u64 c0.f2)] : List C).take 0 ++ ((eT108.f r1.2) : List V).map C.own ++ ([C.own (.im (vS (eI .u8) c0.f0)), C.own (vI .i64 c0.f1), C.own (vI .u64 c0.f2)] : List C).drop (0 + 3) = [C.own (.im (vS (eI .u8) r1.2.f0)), C.own (vI .i64 r1.2.f1), C.own (vI .u64 r1.2.f2)], ((.bx [(.im (vS (eI .u8) r1.2.f0)), (vI .i64 r1.2.f1), (vI .u64 r1.2.f2)]) : V) = (.bx (eT108.f r1.2)), (decide (r1.1 = 0) : Bool) = (decide (r1.1 = 0))])
    (by kernel_rfl) ⟨F88.fn_c fuel c0 n1 _ h2, rfl, .inl rfl, rfl, rfl, rfl, trivial⟩ rfl (fun _ _ h => h)
end F87
namespace F139
/-! spec.ShortLess -/
def fn (fuel : Nat) (a0 : ByteArray) (b1 : ByteArray) : Option Bool :=
  cond (decide ((a0.size : Int) < (b1.size : Int)))
  (some true)
  (cond (decide ((a0.size : Int) = (b1.size : Int)))
    (some (sLt a0 b1))
    (some false))
theorem ent : enterable Try.prog 139 = true := by kernel_rfl
theorem fn_c (fuel : Nat) (a0 : ByteArray) (b1 : ByteArray) (r : Bool) (h : fn fuel a0 b1 = some r) : CallOK Try.prog 139 [.ro (vT a0), .ro (vT b1)] [] (vB r) := by
  refine contract_run Try.func139 (b := bod Try.f139) rfl ent ?_
  unfold fn at h
  rcases cond_cases h with ⟨h1, h⟩ | ⟨h1, h⟩
  · 
    obtain rfl := Option.some.inj h
    exact runRet_S (r := ⟨Try.f139.results.toList, _, _, _, [], 9⟩) (n := 100000) (c := (.code (bod Try.f139))) (K := [])
      (hs := [.h .sa, .h .sa, hA, .skip, .g (.env 10 (C.v (vB true)))])
      (ps := [C.v (vB (decide ((a0.size : Int) < (b1.size : Int)))) = C.v (vB true), (true : Bool) = true])
      (by kernel_rfl) ⟨vbB h1, rfl, trivial⟩ rfl (fun _ _ h => h)
  · 
    rcases cond_cases h with ⟨h2, h⟩ | ⟨h2, h⟩
    · 
      obtain rfl := Option.some.inj h
      exact runRet_S (r := ⟨Try.f139.results.toList, _, _, _, [], 9⟩) (n := 100000) (c := (.code (bod Try.f139))) (K := [])
        (hs := [.h .sa, .h .sa, hA, .skip, .g (.env 10 (C.v (vB false))), .h .sa, .h .sa, hA, .skip, .g (.env 16 (C.v (vB true))), hA])
        (ps := [C.v (vB (decide ((a0.size : Int) < (b1.size : Int)))) = C.v (vB false), C.v (vB (decide ((a0.size : Int) = (b1.size : Int)))) = C.v (vB true), (sLt a0 b1 : Bool) = (sLt a0 b1)])
        (by kernel_rfl) ⟨vbB h1, vbB h2, rfl, trivial⟩ rfl (fun _ _ h => h)
    · 
      obtain rfl := Option.some.inj h
      exact runRet_S (r := ⟨Try.f139.results.toList, _, _, _, [], 9⟩) (n := 100000) (c := (.code (bod Try.f139))) (K := [])
        (hs := [.h .sa, .h .sa, hA, .skip, .g (.env 10 (C.v (vB false))), .h .sa, .h .sa, hA, .skip, .g (.env 16 (C.v (vB false)))])
        (ps := [C.v (vB (decide ((a0.size : Int) < (b1.size : Int)))) = C.v (vB false), C.v (vB (decide ((a0.size : Int) = (b1.size : Int)))) = C.v (vB false), (false : Bool) = false])
        (by kernel_rfl) ⟨vbB h1, vbB h2, rfl, trivial⟩ rfl (fun _ _ h => h)
end F139
namespace F148
/-! (*spec.l1Cur).of -/
def fn (fuel : Nat) (c0 : T108) (list1 : List ByteArray) : Option (ByteArray × T108) :=
  (F88.fn fuel c0 (list1.length : Int)).bind fun r1 =>
  (idx r1.1 list1.length).bind fun j3 =>
  some ((list1.getD j3 ByteArray.empty), r1.2)
theorem ent : enterable Try.prog 148 = true := by kernel_rfl
theorem fn_c (fuel : Nat) (c0 : T108) (list1 : List ByteArray) (r : ByteArray × T108) (h : fn fuel c0 list1 = some r) : CallOK Try.prog 148 [.io (.bx (eT108.f c0)), .own (vS eT list1)] [(.bx (eT108.f r.2))] (vT r.1) := by
  refine contract_run Try.func148 (b := bod Try.f148) rfl ent ?_
  unfold fn at h
  obtain ⟨r1, h2, h⟩ := bind_cases h
  obtain ⟨j3, h4, h⟩ := bind_cases h
  obtain rfl := Option.some.inj h
  exact runRet_S (r := ⟨Try.f148.results.toList, _, _, _, [], 9⟩) (n := 100000) (c := (.code (bod Try.f148))) (K := [])
    (hs := [hA, .call ⟨[(.io none), .ro], 9, [], true, [(.bx (eT108.f r1.2))], (vI .i64 r1.1), [[C.own (.im (vS (eI .u8) r1.2.f0)), C.own (vI .i64 r1.2.f1), C.own (vI .u64 r1.2.f2)]], 2⟩, .h (.idx j3 false), .h (.cell (C.v (vT (list1.getD j3 ByteArray.empty))))])
    (ps := [CallOK Try.prog 88 [.io (.bx [(.im (vS (eI .u8) c0.f0)), (vI .i64 c0.f1), (vI .u64 c0.f2)]), .ro (vI .i64 (list1.length : Int))] [(.bx (eT108.f r1.2))] (vI .i64 r1.1), ((eT108.f r1.2) : List V).length = 3, ((eT108.f r1.2) : List V).length = 3 ∨ ([C.own (.im (vS (eI .u8) c0.f0)), C.own (vI .i64 c0.f1), C.own (vI .u64 c0.f2)] : List C).length ≤ 0 + 3, ([C.own (.im (vS (eI .u8) c0.f0)), C.own (vI .i64 c0.f1), C.own (vI .u64 c0.f2)] : List C).take 0 ++ ((eT108.f r1.2) : List V).map C.own ++ ([C.own (.im (vS (eI .u8) c0.f0)), C.own (vI .i64 c0.f1), C.own (vI .u64 c0.f2)] : List C).drop (0 + 3) = [C.own (.im (vS (eI .u8) r1.2.f0)), C.own (vI .i64 r1.2.f1), C.own (vI .u64 r1.2.f2)], r1.1 = (j3 : Int), j3 < list1.length, ((own (cs eT list1))[0 + j3 * 1]?).bind readC = some (C.v (vT (list1.getD j3 ByteArray.empty))), ((.bx [(.im (vS (eI .u8) r1.2.f0)), (vI .i64 r1.2.f1), (vI .u64 r1.2.f2)]) : V) = (.bx (eT108.f r1.2)), Value.string (list1.getD j3 ByteArray.empty) = Value.string (list1.getD j3 ByteArray.empty)])
    (by kernel_rfl) ⟨F88.fn_c fuel c0 (list1.length : Int) _ h2, rfl, .inl rfl, rfl, (idx_S h4).1, (idx_S h4).2, readC_at (e := eT) (k := 0) (d := ByteArray.empty) (idx_S h4).2 (by decide) rfl, rfl, rfl, trivial⟩ rfl (fun _ _ h => h)
end F148
namespace F147
/-! (*spec.l1Cur).abText -/
noncomputable def K0 := (subC [1, 1, 0, 1, 0] (bod Try.f147) []).2
noncomputable def L0 := (subC [1, 1, 0, 1, 0, 0] (bod Try.f147) []).1
def I0 (v3 : List Int) (v4 : Int) (v5 : Int) (s6 : ByteArray) (n7 : Int) : TL := ⟨21, [C.pr 0 0, C.dead], [(0, C.pr 0 0), (5, C.v (vT s6)), (6, C.v (vI .i64 n7))], [], [(0, [C.own (.im (vS (eI .u8) v3)), C.own (vI .i64 v4), C.own (vI .u64 v5)])]⟩
def J0_0 (o : (List Int) × Int × Int × ByteArray) : TL := ⟨21, [C.pr 0 0, C.dead], [(5, C.v (vT o.2.2.2))], [], [(0, [C.own (.im (vS (eI .u8) o.1)), C.own (vI .i64 o.2.1), C.own (vI .u64 o.2.2.1)])]⟩
def Q0 (r : (List Int) × Int × Int × ByteArray) (e : Exit) (st : St) : Prop := (fun o => e = (.exit 0) ∧ Le st (J0_0 o).sl.st) r
def p0 (fuel : Nat) : Nat → (List Int) → Int → Int → ByteArray → Int → Option ((List Int) × Int × Int × ByteArray)
  | 0, _, _, _, _, _ => none
  | n + 1, v3, v4, v5, s6, n7 =>
    cond (decide (n7 > 0))
    ((F148.fn fuel (⟨v3, v4, v5⟩ : T108) ([⟨#[97]⟩, ⟨#[98]⟩, ⟨#[97]⟩, ⟨#[98]⟩, ⟨#[99]⟩] : List ByteArray)).bind fun r9 =>
      (chk (s6.size + r9.1.size ≤ 9223372036854775807)).bind fun _ =>
      p0 fuel n r9.2.f0 r9.2.f1 r9.2.f2 (s6 ++ r9.1) (w64 (n7 - 1)))
    (some (v3, v4, v5, s6))
theorem p0_c (fuel : Nat) (n : Nat) (v3 : List Int) (v4 : Int) (v5 : Int) (s6 : ByteArray) (n7 : Int) (r : (List Int) × Int × Int × ByteArray) (h : p0 fuel n v3 v4 v5 s6 n7 = some r) : TW Try.prog (.loop L0) (I0 v3 v4 v5 s6 n7).sl.st (Q0 r) := by
  refine loop_run (σ := (List Int) × Int × Int × ByteArray × Int) (fun x => I0 x.1 x.2.1 x.2.2.1 x.2.2.2.1 x.2.2.2.2) (fun n x => p0 fuel n x.1 x.2.1 x.2.2.1 x.2.2.2.1 x.2.2.2.2) (Q0) ?_ (fun _ => rfl) (x := (v3, v4, v5, s6, n7)) h
  clear h
  rintro n ⟨v3, v4, v5, s6, n7⟩ r h
  replace h : p0 fuel (n + 1) v3 v4 v5 s6 n7 = some r := h
  rw [p0] at h
  rcases cond_cases h with ⟨h8, h⟩ | ⟨h8, h⟩
  · 
    obtain ⟨r9, h10, h⟩ := bind_cases h
    obtain ⟨_, h11, h⟩ := bind_cases h
    exact runAt_S (Q := Round _ (n + 1) _) (n := 100000) (c := (.code L0)) (K := []) (s := (I0 v3 v4 v5 s6 n7).sl) (e := .normal) (t := I0 r9.2.f0 r9.2.f1 r9.2.f2 (s6 ++ r9.1) (w64 (n7 - 1))) (l := [(0, 0)])
      (hs := [hA, .g (.env 12 (C.v (vB true))), .h (.new 1), .call ⟨[(.io none), .own], 9, [(1, (cs eT ([⟨#[97]⟩, ⟨#[98]⟩, ⟨#[97]⟩, ⟨#[98]⟩, ⟨#[99]⟩] : List ByteArray)), (cs eT ([⟨#[97]⟩, ⟨#[98]⟩, ⟨#[97]⟩, ⟨#[98]⟩, ⟨#[99]⟩] : List ByteArray)))], true, [(.bx (eT108.f r9.2))], (vT r9.1), [[C.own (.im (vS (eI .u8) r9.2.f0)), C.own (vI .i64 r9.2.f1), C.own (vI .u64 r9.2.f2)]], 2⟩, .h .sa, hA])
      (ps := [C.v (vB (decide (n7 > 0))) = C.v (vB true), CallOK Try.prog 148 [.io (.bx [(.im (vS (eI .u8) v3)), (vI .i64 v4), (vI .u64 v5)]), .own (.sl 1 5 (cs eT ([⟨#[97]⟩, ⟨#[98]⟩, ⟨#[97]⟩, ⟨#[98]⟩, ⟨#[99]⟩] : List ByteArray)))] [(.bx (eT108.f r9.2))] (vT r9.1), (own (cs eT ([⟨#[97]⟩, ⟨#[98]⟩, ⟨#[97]⟩, ⟨#[98]⟩, ⟨#[99]⟩] : List ByteArray))) = (cs eT ([⟨#[97]⟩, ⟨#[98]⟩, ⟨#[97]⟩, ⟨#[98]⟩, ⟨#[99]⟩] : List ByteArray)).map C.own, 0 + 5 * 1 ≤ (cs eT ([⟨#[97]⟩, ⟨#[98]⟩, ⟨#[97]⟩, ⟨#[98]⟩, ⟨#[99]⟩] : List ByteArray)).length, ((cs eT ([⟨#[97]⟩, ⟨#[98]⟩, ⟨#[97]⟩, ⟨#[98]⟩, ⟨#[99]⟩] : List ByteArray)).drop (0)).take (5 * 1) = (cs eT ([⟨#[97]⟩, ⟨#[98]⟩, ⟨#[97]⟩, ⟨#[98]⟩, ⟨#[99]⟩] : List ByteArray)), ((eT108.f r9.2) : List V).length = 3, ((eT108.f r9.2) : List V).length = 3 ∨ ([C.own (.im (vS (eI .u8) v3)), C.own (vI .i64 v4), C.own (vI .u64 v5)] : List C).length ≤ 0 + 3, ([C.own (.im (vS (eI .u8) v3)), C.own (vI .i64 v4), C.own (vI .u64 v5)] : List C).take 0 ++ ((eT108.f r9.2) : List V).map C.own ++ ([C.own (.im (vS (eI .u8) v3)), C.own (vI .i64 v4), C.own (vI .u64 v5)] : List C).drop (0 + 3) = [C.own (.im (vS (eI .u8) r9.2.f0)), C.own (vI .i64 r9.2.f1), C.own (vI .u64 r9.2.f2)], s6.size + r9.1.size ≤ 9223372036854775807, 0 = 0, 0 = 0, Value.string (s6 ++ r9.1) = Value.string (s6 ++ r9.1), (w64 (n7 - 1) : Int) = (w64 (n7 - 1)), (V.im (vS (eI .u8) r9.2.f0)) = V.im (vS (eI .u8) r9.2.f0), (r9.2.f1 : Int) = r9.2.f1, (r9.2.f2 : Int) = r9.2.f2])
      (by kernel_rfl) ⟨vbB h8, F148.fn_c fuel (⟨v3, v4, v5⟩ : T108) ([⟨#[97]⟩, ⟨#[98]⟩, ⟨#[97]⟩, ⟨#[98]⟩, ⟨#[99]⟩] : List ByteArray) _ h10, rfl, len_all (e := eT) (rfl), take_cs (e := eT) (rfl), rfl, .inl rfl, rfl, (chk_S h11), rfl, rfl, rfl, rfl, rfl, rfl, rfl, trivial⟩ (fun st hl => ⟨n, _, Nat.lt_succ_self n, hl, (r9.2.f0, r9.2.f1, r9.2.f2, s6 ++ r9.1, w64 (n7 - 1)), rfl, rfl, h⟩)
  · 
    obtain rfl := Option.some.inj h
    exact runAt_S (Q := Round _ (n + 1) _) (n := 100000) (c := (.code L0)) (K := []) (s := (I0 v3 v4 v5 s6 n7).sl) (e := (.exit 0)) (t := J0_0 (v3, v4, v5, s6)) (l := [(0, 0)])
      (hs := [hA, .g (.env 12 (C.v (vB false)))])
      (ps := [C.v (vB (decide (n7 > 0))) = C.v (vB false), 0 = 0, Value.string s6 = Value.string s6, (V.im (vS (eI .u8) v3)) = V.im (vS (eI .u8) v3), (v4 : Int) = v4, (v5 : Int) = v5])
      (by kernel_rfl) ⟨vbB h8, rfl, rfl, rfl, rfl, rfl, trivial⟩ (fun st hl => ⟨rfl, hl⟩)
def fn (fuel : Nat) (c0 : T108) (most1 : Int) : Option (ByteArray × T108) :=
  (F88.fn fuel c0 (w64 (most1 + 1))).bind fun r1 =>
  (p0 fuel fuel r1.2.f0 r1.2.f1 r1.2.f2 ByteArray.empty r1.1).bind fun r12 =>
  some (r12.2.2.2, (⟨r12.1, r12.2.1, r12.2.2.1⟩ : T108))
theorem ent : enterable Try.prog 147 = true := by kernel_rfl
theorem fn_c (fuel : Nat) (c0 : T108) (most1 : Int) (r : ByteArray × T108) (h : fn fuel c0 most1 = some r) : CallOK Try.prog 147 [.io (.bx (eT108.f c0)), .ro (vI .i64 most1)] [(.bx (eT108.f r.2))] (vT r.1) := by
  refine contract_run Try.func147 (b := bod Try.f147) rfl ent ?_
  unfold fn at h
  obtain ⟨r1, h2, h⟩ := bind_cases h
  obtain ⟨r12, h13, h⟩ := bind_cases h
  refine runTo_S (n := 100000) (c := (.code (bod Try.f147))) (K := []) (b := (.code (.loop L0))) (K1 := K0) (t := I0 r1.2.f0 r1.2.f1 r1.2.f2 ByteArray.empty r1.1) (l := [(0, 0)])
    (hs := [hA, .call ⟨[(.io none), .ro], 9, [], true, [(.bx (eT108.f r1.2))], (vI .i64 r1.1), [[C.own (.im (vS (eI .u8) r1.2.f0)), C.own (vI .i64 r1.2.f1), C.own (vI .u64 r1.2.f2)]], 1⟩])
    (ps := [CallOK Try.prog 88 [.io (.bx [(.im (vS (eI .u8) c0.f0)), (vI .i64 c0.f1), (vI .u64 c0.f2)]), .ro (vI .i64 (w64 (most1 + 1)))] [(.bx (eT108.f r1.2))] (vI .i64 r1.1), ((eT108.f r1.2) : List V).length = 3, ((eT108.f r1.2) : List V).length = 3 ∨ ([C.own (.im (vS (eI .u8) c0.f0)), C.own (vI .i64 c0.f1), C.own (vI .u64 c0.f2)] : List C).length ≤ 0 + 3, ([C.own (.im (vS (eI .u8) c0.f0)), C.own (vI .i64 c0.f1), C.own (vI .u64 c0.f2)] : List C).take 0 ++ ((eT108.f r1.2) : List V).map C.own ++ ([C.own (.im (vS (eI .u8) c0.f0)), C.own (vI .i64 c0.f1), C.own (vI .u64 c0.f2)] : List C).drop (0 + 3) = [C.own (.im (vS (eI .u8) r1.2.f0)), C.own (vI .i64 r1.2.f1), C.own (vI .u64 r1.2.f2)], 0 = 0, 0 = 0, Value.string ByteArray.empty = Value.string ByteArray.empty, (r1.1 : Int) = r1.1, (V.im (vS (eI .u8) r1.2.f0)) = V.im (vS (eI .u8) r1.2.f0), (r1.2.f1 : Int) = r1.2.f1, (r1.2.f2 : Int) = r1.2.f2])
    (by kernel_rfl) ⟨F88.fn_c fuel c0 (w64 (most1 + 1)) _ h2, rfl, .inl rfl, rfl, rfl, rfl, rfl, rfl, rfl, rfl, rfl, trivial⟩ (cut_code ?_)
  refine TW.mono_le (p0_c fuel fuel r1.2.f0 r1.2.f1 r1.2.f2 ByteArray.empty r1.1 _ h13) ?_
  rintro e st hq
  obtain ⟨rfl, hl⟩ := hq
  refine ⟨_, hl, ?_⟩
  obtain rfl := Option.some.inj h
  exact runRet_S (r := ⟨Try.f147.results.toList, _, _, _, [], 9⟩) (n := 100000) (c := (.out (.exit 0))) (K := K0) (s := (J0_0 r12).sl)
    (hs := [])
    (ps := [((.bx [(.im (vS (eI .u8) r12.1)), (vI .i64 r12.2.1), (vI .u64 r12.2.2.1)]) : V) = (.bx (eT108.f (⟨r12.1, r12.2.1, r12.2.2.1⟩ : T108))), Value.string r12.2.2.2 = Value.string r12.2.2.2])
    (by kernel_rfl) ⟨rfl, rfl, trivial⟩ rfl (fun _ _ h => h)
end F147
namespace F84
/-! (*spec.l1Cur).rules -/
noncomputable def K0 := (subC [1, 1, 1, 0, 1, 0] (bod Try.f84) []).2
noncomputable def L0 := (subC [1, 1, 1, 0, 1, 0, 0] (bod Try.f84) []).1
noncomputable def K1 := (subC [1, 0, 0, 1, 0, 0] L0 []).2
noncomputable def B1 := (subC [1, 0, 0, 1, 0, 0] L0 []).1
noncomputable def K2 := (subC [1, 0, 0, 1, 0, 1] L0 []).2
noncomputable def B2 := (subC [1, 0, 0, 1, 0, 1] L0 []).1
noncomputable def K3 := (subC [1, 0, 0, 1, 1, 0] L0 []).2
noncomputable def B3 := (subC [1, 0, 0, 1, 1, 0] L0 []).1
noncomputable def K4 := (subC [1, 1, 1, 1, 0, 0] (bod Try.f84) []).2
noncomputable def B4 := (subC [1, 1, 1, 1, 0, 0] (bod Try.f84) []).1
def I1 (v17 : List Int) (v18 : Int) (v19 : Int) (l20 : List T174) (n21 : Int) (r22 : ByteArray) (r23 : ByteArray) : TL := ⟨77, [C.pr 0 0], [(0, C.pr 0 0), (3, C.sr 1 0 2 l20.length), (4, C.v (vI .i64 n21)), (5, C.pr 2 0)], [(1, (cs eT174 l20))], [(0, [C.own (.im (vS (eI .u8) v17)), C.own (vI .i64 v18), C.own (vI .u64 v19)]), (2, [C.own (vT r22), C.own (vT r23)])]⟩
def J1_0 (v17 : List Int) (v18 : Int) (v19 : Int) (l20 : List T174) (n21 : Int) (r22 : ByteArray) (r23 : ByteArray) (o : (List Int) × Int × Int × Bool) : TL := ⟨77, [C.pr 0 0], [(0, C.pr 0 0), (3, C.sr 1 0 2 l20.length), (4, C.v (vI .i64 n21)), (5, C.pr 2 0), (42, C.v (vB o.2.2.2))], [(1, (cs eT174 l20))], [(0, [C.own (.im (vS (eI .u8) o.1)), C.own (vI .i64 o.2.1), C.own (vI .u64 o.2.2.1)]), (2, [C.own (vT r22), C.own (vT r23)])]⟩
def Q1 (v17 : List Int) (v18 : Int) (v19 : Int) (l20 : List T174) (n21 : Int) (r22 : ByteArray) (r23 : ByteArray) (r : (List Int) × Int × Int × Bool) (e : Exit) (st : St) : Prop := (fun o => e = .normal ∧ Le st (J1_0 v17 v18 v19 l20 n21 r22 r23 o).sl.st) r
def p1 (fuel : Nat) (v17 : List Int) (v18 : Int) (v19 : Int) (l20 : List T174) (n21 : Int) (r22 : ByteArray) (r23 : ByteArray) : Option ((List Int) × Int × Int × Bool) :=
  (F139.fn fuel r23 r22).bind fun r24 =>
  cond (!r24)
  ((F87.fn fuel (⟨v17, v18, v19⟩ : T108) 12).bind fun r27 =>
    some (r27.2.f0, r27.2.f1, r27.2.f2, !r27.1))
  (some (v17, v18, v19, false))
theorem p1_c (fuel : Nat) (v17 : List Int) (v18 : Int) (v19 : Int) (l20 : List T174) (n21 : Int) (r22 : ByteArray) (r23 : ByteArray) (r : (List Int) × Int × Int × Bool) (h : p1 fuel v17 v18 v19 l20 n21 r22 r23 = some r) : TW Try.prog B1 (I1 v17 v18 v19 l20 n21 r22 r23).sl.st (Q1 v17 v18 v19 l20 n21 r22 r23 r) := by
  unfold p1 at h
  obtain ⟨r24, h25, h⟩ := bind_cases h
  rcases cond_cases h with ⟨h26, h⟩ | ⟨h26, h⟩
  · 
    obtain ⟨r27, h28, h⟩ := bind_cases h
    obtain rfl := Option.some.inj h
    exact runAt_S (Q := Q1 v17 v18 v19 l20 n21 r22 r23 _) (n := 100000) (c := (.code B1)) (K := []) (s := (I1 v17 v18 v19 l20 n21 r22 r23).sl) (e := .normal) (t := J1_0 v17 v18 v19 l20 n21 r22 r23 (r27.2.f0, r27.2.f1, r27.2.f2, !r27.1)) (l := [(0, 0), (1, 1), (2, 2)])
      (hs := [hA, hA, .call ⟨[.ro, .ro], 9, [], true, [], (vB r24), [], 3⟩, hA, .skip, .g (.env 38 (C.v (vB true))), .call ⟨[(.io none), .ro], 9, [], true, [(.bx (eT108.f r27.2))], (vB r27.1), [[C.own (.im (vS (eI .u8) r27.2.f0)), C.own (vI .i64 r27.2.f1), C.own (vI .u64 r27.2.f2)]], 3⟩, hA])
      (ps := [CallOK Try.prog 139 [.ro (vT r23), .ro (vT r22)] [] (vB r24), C.v (vB (!r24)) = C.v (vB true), CallOK Try.prog 87 [.io (.bx [(.im (vS (eI .u8) v17)), (vI .i64 v18), (vI .u64 v19)]), .ro (vI .i64 12)] [(.bx (eT108.f r27.2))] (vB r27.1), ((eT108.f r27.2) : List V).length = 3, ((eT108.f r27.2) : List V).length = 3 ∨ ([C.own (.im (vS (eI .u8) v17)), C.own (vI .i64 v18), C.own (vI .u64 v19)] : List C).length ≤ 0 + 3, ([C.own (.im (vS (eI .u8) v17)), C.own (vI .i64 v18), C.own (vI .u64 v19)] : List C).take 0 ++ ((eT108.f r27.2) : List V).map C.own ++ ([C.own (.im (vS (eI .u8) v17)), C.own (vI .i64 v18), C.own (vI .u64 v19)] : List C).drop (0 + 3) = [C.own (.im (vS (eI .u8) r27.2.f0)), C.own (vI .i64 r27.2.f1), C.own (vI .u64 r27.2.f2)], 0 = 0, 0 = 0, 0 = 0, l20.length = l20.length, (n21 : Int) = n21, 0 = 0, (!r27.1 : Bool) = (!r27.1), (own (cs eT174 l20)) = (cs eT174 l20).map C.own, (V.im (vS (eI .u8) r27.2.f0)) = V.im (vS (eI .u8) r27.2.f0), (r27.2.f1 : Int) = r27.2.f1, (r27.2.f2 : Int) = r27.2.f2, Value.string r22 = Value.string r22, Value.string r23 = Value.string r23])
      (by kernel_rfl) ⟨F139.fn_c fuel r23 r22 _ h25, vbB h26, F87.fn_c fuel (⟨v17, v18, v19⟩ : T108) 12 _ h28, rfl, .inl rfl, rfl, rfl, rfl, rfl, rfl, rfl, rfl, rfl, rfl, rfl, rfl, rfl, rfl, rfl, trivial⟩ (fun st hl => ⟨rfl, hl⟩)
  · 
    obtain rfl := Option.some.inj h
    exact runAt_S (Q := Q1 v17 v18 v19 l20 n21 r22 r23 _) (n := 100000) (c := (.code B1)) (K := []) (s := (I1 v17 v18 v19 l20 n21 r22 r23).sl) (e := .normal) (t := J1_0 v17 v18 v19 l20 n21 r22 r23 (v17, v18, v19, false)) (l := [(0, 0), (1, 1), (2, 2)])
      (hs := [hA, hA, .call ⟨[.ro, .ro], 9, [], true, [], (vB r24), [], 3⟩, hA, .skip, .g (.env 38 (C.v (vB false)))])
      (ps := [CallOK Try.prog 139 [.ro (vT r23), .ro (vT r22)] [] (vB r24), C.v (vB (!r24)) = C.v (vB false), 0 = 0, 0 = 0, 0 = 0, l20.length = l20.length, (n21 : Int) = n21, 0 = 0, (false : Bool) = false, (own (cs eT174 l20)) = (cs eT174 l20).map C.own, (V.im (vS (eI .u8) v17)) = V.im (vS (eI .u8) v17), (v18 : Int) = v18, (v19 : Int) = v19, Value.string r22 = Value.string r22, Value.string r23 = Value.string r23])
      (by kernel_rfl) ⟨F139.fn_c fuel r23 r22 _ h25, vbB h26, rfl, rfl, rfl, rfl, rfl, rfl, rfl, rfl, rfl, rfl, rfl, rfl, rfl, trivial⟩ (fun st hl => ⟨rfl, hl⟩)
def I2 (v31 : List Int) (v32 : Int) (v33 : Int) (l34 : List T174) (n35 : Int) (r36 : ByteArray) (r37 : ByteArray) (v38 : Bool) : TL := ⟨77, [C.pr 0 0], [(0, C.pr 0 0), (3, C.sr 1 0 2 l34.length), (4, C.v (vI .i64 n35)), (5, C.pr 2 0), (42, C.v (vB v38))], [(1, (cs eT174 l34))], [(0, [C.own (.im (vS (eI .u8) v31)), C.own (vI .i64 v32), C.own (vI .u64 v33)]), (2, [C.own (vT r36), C.own (vT r37)])]⟩
def J2_0 (v31 : List Int) (v32 : Int) (v33 : Int) (l34 : List T174) (n35 : Int) (r36 : ByteArray) (r37 : ByteArray) (v38 : Bool) (o : ByteArray × ByteArray) : TL := ⟨77, [C.pr 0 0], [(0, C.pr 0 0), (3, C.sr 1 0 2 l34.length), (4, C.v (vI .i64 n35)), (5, C.pr 2 0)], [(1, (cs eT174 l34))], [(0, [C.own (.im (vS (eI .u8) v31)), C.own (vI .i64 v32), C.own (vI .u64 v33)]), (2, [C.own (vT o.1), C.own (vT o.2)])]⟩
def Q2 (v31 : List Int) (v32 : Int) (v33 : Int) (l34 : List T174) (n35 : Int) (r36 : ByteArray) (r37 : ByteArray) (v38 : Bool) (r : ByteArray × ByteArray) (e : Exit) (st : St) : Prop := (fun o => e = .normal ∧ Le st (J2_0 v31 v32 v33 l34 n35 r36 r37 v38 o).sl.st) r
def p2 (fuel : Nat) (v31 : List Int) (v32 : Int) (v33 : Int) (l34 : List T174) (n35 : Int) (r36 : ByteArray) (r37 : ByteArray) (v38 : Bool) : Option (ByteArray × ByteArray) :=
  cond (v38)
  (some (r37, r36))
  (some (r36, r37))
theorem p2_c (fuel : Nat) (v31 : List Int) (v32 : Int) (v33 : Int) (l34 : List T174) (n35 : Int) (r36 : ByteArray) (r37 : ByteArray) (v38 : Bool) (r : ByteArray × ByteArray) (h : p2 fuel v31 v32 v33 l34 n35 r36 r37 v38 = some r) : TW Try.prog B2 (I2 v31 v32 v33 l34 n35 r36 r37 v38).sl.st (Q2 v31 v32 v33 l34 n35 r36 r37 v38 r) := by
  unfold p2 at h
  rcases cond_cases h with ⟨h39, h⟩ | ⟨h39, h⟩
  · 
    obtain rfl := Option.some.inj h
    exact runAt_S (Q := Q2 v31 v32 v33 l34 n35 r36 r37 v38 _) (n := 100000) (c := (.code B2)) (K := []) (s := (I2 v31 v32 v33 l34 n35 r36 r37 v38).sl) (e := .normal) (t := J2_0 v31 v32 v33 l34 n35 r36 r37 v38 (r37, r36)) (l := [(0, 0), (1, 1), (2, 2)])
      (hs := [.g (.env 42 (C.v (vB true))), hA, hA, hA, hA])
      (ps := [C.v (vB v38) = C.v (vB true), 0 = 0, 0 = 0, 0 = 0, l34.length = l34.length, (n35 : Int) = n35, 0 = 0, (own (cs eT174 l34)) = (cs eT174 l34).map C.own, (V.im (vS (eI .u8) v31)) = V.im (vS (eI .u8) v31), (v32 : Int) = v32, (v33 : Int) = v33, Value.string r37 = Value.string r37, Value.string r36 = Value.string r36])
      (by kernel_rfl) ⟨vbB h39, rfl, rfl, rfl, rfl, rfl, rfl, rfl, rfl, rfl, rfl, rfl, rfl, trivial⟩ (fun st hl => ⟨rfl, hl⟩)
  · 
    obtain rfl := Option.some.inj h
    exact runAt_S (Q := Q2 v31 v32 v33 l34 n35 r36 r37 v38 _) (n := 100000) (c := (.code B2)) (K := []) (s := (I2 v31 v32 v33 l34 n35 r36 r37 v38).sl) (e := .normal) (t := J2_0 v31 v32 v33 l34 n35 r36 r37 v38 (r36, r37)) (l := [(0, 0), (1, 1), (2, 2)])
      (hs := [.g (.env 42 (C.v (vB false)))])
      (ps := [C.v (vB v38) = C.v (vB false), 0 = 0, 0 = 0, 0 = 0, l34.length = l34.length, (n35 : Int) = n35, 0 = 0, (own (cs eT174 l34)) = (cs eT174 l34).map C.own, (V.im (vS (eI .u8) v31)) = V.im (vS (eI .u8) v31), (v32 : Int) = v32, (v33 : Int) = v33, Value.string r36 = Value.string r36, Value.string r37 = Value.string r37])
      (by kernel_rfl) ⟨vbB h39, rfl, rfl, rfl, rfl, rfl, rfl, rfl, rfl, rfl, rfl, rfl, rfl, trivial⟩ (fun st hl => ⟨rfl, hl⟩)
def I3 (v42 : List Int) (v43 : Int) (v44 : Int) (l45 : List T174) (n46 : Int) (r47 : ByteArray) (r48 : ByteArray) : TL := ⟨77, [C.pr 0 0], [(0, C.pr 0 0), (3, C.sr 1 0 2 l45.length), (4, C.v (vI .i64 n46)), (5, C.pr 2 0)], [(1, (cs eT174 l45))], [(0, [C.own (.im (vS (eI .u8) v42)), C.own (vI .i64 v43), C.own (vI .u64 v44)]), (2, [C.own (vT r47), C.own (vT r48)])]⟩
def J3_0 (v42 : List Int) (v43 : Int) (v44 : Int) (l45 : List T174) (n46 : Int) (r47 : ByteArray) (r48 : ByteArray) (o : (List Int) × Int × Int × Bool) : TL := ⟨77, [C.pr 0 0], [(0, C.pr 0 0), (3, C.sr 1 0 2 l45.length), (4, C.v (vI .i64 n46)), (5, C.pr 2 0), (58, C.v (vB o.2.2.2))], [(1, (cs eT174 l45))], [(0, [C.own (.im (vS (eI .u8) o.1)), C.own (vI .i64 o.2.1), C.own (vI .u64 o.2.2.1)]), (2, [C.own (vT r47), C.own (vT r48)])]⟩
def Q3 (v42 : List Int) (v43 : Int) (v44 : Int) (l45 : List T174) (n46 : Int) (r47 : ByteArray) (r48 : ByteArray) (r : (List Int) × Int × Int × Bool) (e : Exit) (st : St) : Prop := (fun o => e = .normal ∧ Le st (J3_0 v42 v43 v44 l45 n46 r47 r48 o).sl.st) r
def p3 (fuel : Nat) (v42 : List Int) (v43 : Int) (v44 : Int) (l45 : List T174) (n46 : Int) (r47 : ByteArray) (r48 : ByteArray) : Option ((List Int) × Int × Int × Bool) :=
  cond (!sEq r47 r48)
  (some (v42, v43, v44, true))
  ((F87.fn fuel (⟨v42, v43, v44⟩ : T108) 12).bind fun r50 =>
    some (r50.2.f0, r50.2.f1, r50.2.f2, r50.1))
theorem p3_c (fuel : Nat) (v42 : List Int) (v43 : Int) (v44 : Int) (l45 : List T174) (n46 : Int) (r47 : ByteArray) (r48 : ByteArray) (r : (List Int) × Int × Int × Bool) (h : p3 fuel v42 v43 v44 l45 n46 r47 r48 = some r) : TW Try.prog B3 (I3 v42 v43 v44 l45 n46 r47 r48).sl.st (Q3 v42 v43 v44 l45 n46 r47 r48 r) := by
  unfold p3 at h
  rcases cond_cases h with ⟨h49, h⟩ | ⟨h49, h⟩
  · 
    obtain rfl := Option.some.inj h
    exact runAt_S (Q := Q3 v42 v43 v44 l45 n46 r47 r48 _) (n := 100000) (c := (.code B3)) (K := []) (s := (I3 v42 v43 v44 l45 n46 r47 r48).sl) (e := .normal) (t := J3_0 v42 v43 v44 l45 n46 r47 r48 (v42, v43, v44, true)) (l := [(0, 0), (1, 1), (2, 2)])
      (hs := [hA, hA, hA, .skip, .g (.env 55 (C.v (vB true)))])
      (ps := [C.v (vB (!sEq r47 r48)) = C.v (vB true), 0 = 0, 0 = 0, 0 = 0, l45.length = l45.length, (n46 : Int) = n46, 0 = 0, (true : Bool) = true, (own (cs eT174 l45)) = (cs eT174 l45).map C.own, (V.im (vS (eI .u8) v42)) = V.im (vS (eI .u8) v42), (v43 : Int) = v43, (v44 : Int) = v44, Value.string r47 = Value.string r47, Value.string r48 = Value.string r48])
      (by kernel_rfl) ⟨vbB h49, rfl, rfl, rfl, rfl, rfl, rfl, rfl, rfl, rfl, rfl, rfl, rfl, rfl, trivial⟩ (fun st hl => ⟨rfl, hl⟩)
  · 
    obtain ⟨r50, h51, h⟩ := bind_cases h
    obtain rfl := Option.some.inj h
    exact runAt_S (Q := Q3 v42 v43 v44 l45 n46 r47 r48 _) (n := 100000) (c := (.code B3)) (K := []) (s := (I3 v42 v43 v44 l45 n46 r47 r48).sl) (e := .normal) (t := J3_0 v42 v43 v44 l45 n46 r47 r48 (r50.2.f0, r50.2.f1, r50.2.f2, r50.1)) (l := [(0, 0), (1, 1), (2, 2)])
      (hs := [hA, hA, hA, .skip, .g (.env 55 (C.v (vB false))), .call ⟨[(.io none), .ro], 9, [], true, [(.bx (eT108.f r50.2))], (vB r50.1), [[C.own (.im (vS (eI .u8) r50.2.f0)), C.own (vI .i64 r50.2.f1), C.own (vI .u64 r50.2.f2)]], 3⟩])
      (ps := [C.v (vB (!sEq r47 r48)) = C.v (vB false), CallOK Try.prog 87 [.io (.bx [(.im (vS (eI .u8) v42)), (vI .i64 v43), (vI .u64 v44)]), .ro (vI .i64 12)] [(.bx (eT108.f r50.2))] (vB r50.1), ((eT108.f r50.2) : List V).length = 3, ((eT108.f r50.2) : List V).length = 3 ∨ ([C.own (.im (vS (eI .u8) v42)), C.own (vI .i64 v43), C.own (vI .u64 v44)] : List C).length ≤ 0 + 3, ([C.own (.im (vS (eI .u8) v42)), C.own (vI .i64 v43), C.own (vI .u64 v44)] : List C).take 0 ++ ((eT108.f r50.2) : List V).map C.own ++ ([C.own (.im (vS (eI .u8) v42)), C.own (vI .i64 v43), C.own (vI .u64 v44)] : List C).drop (0 + 3) = [C.own (.im (vS (eI .u8) r50.2.f0)), C.own (vI .i64 r50.2.f1), C.own (vI .u64 r50.2.f2)], 0 = 0, 0 = 0, 0 = 0, l45.length = l45.length, (n46 : Int) = n46, 0 = 0, (r50.1 : Bool) = r50.1, (own (cs eT174 l45)) = (cs eT174 l45).map C.own, (V.im (vS (eI .u8) r50.2.f0)) = V.im (vS (eI .u8) r50.2.f0), (r50.2.f1 : Int) = r50.2.f1, (r50.2.f2 : Int) = r50.2.f2, Value.string r47 = Value.string r47, Value.string r48 = Value.string r48])
      (by kernel_rfl) ⟨vbB h49, F87.fn_c fuel (⟨v42, v43, v44⟩ : T108) 12 _ h51, rfl, .inl rfl, rfl, rfl, rfl, rfl, rfl, rfl, rfl, rfl, rfl, rfl, rfl, rfl, rfl, rfl, trivial⟩ (fun st hl => ⟨rfl, hl⟩)
def I0 (v7 : List Int) (v8 : Int) (v9 : Int) (l10 : List T174) (n11 : Int) : TL := ⟨77, [C.pr 0 0], [(0, C.pr 0 0), (3, C.sr 1 0 2 l10.length), (4, C.v (vI .i64 n11))], [(1, (cs eT174 l10))], [(0, [C.own (.im (vS (eI .u8) v7)), C.own (vI .i64 v8), C.own (vI .u64 v9)])]⟩
def J0_0 (o : (List Int) × Int × Int × (List T174)) : TL := ⟨77, [C.pr 0 0], [(0, C.pr 0 0), (3, C.sr 1 0 2 o.2.2.2.length)], [(1, (cs eT174 o.2.2.2))], [(0, [C.own (.im (vS (eI .u8) o.1)), C.own (vI .i64 o.2.1), C.own (vI .u64 o.2.2.1)])]⟩
def Q0 (r : (List Int) × Int × Int × (List T174)) (e : Exit) (st : St) : Prop := (fun o => e = (.exit 1) ∧ Le st (J0_0 o).sl.st) r
def p0 (fuel : Nat) : Nat → (List Int) → Int → Int → (List T174) → Int → Option ((List Int) × Int × Int × (List T174))
  | 0, _, _, _, _, _ => none
  | n + 1, v7, v8, v9, l10, n11 =>
    cond (decide (n11 > 0))
    ((F147.fn fuel (⟨v7, v8, v9⟩ : T108) 3).bind fun r13 =>
      (F147.fn fuel r13.2 3).bind fun r15 =>
      (p1 fuel r15.2.f0 r15.2.f1 r15.2.f2 l10 n11 r13.1 r15.1).bind fun r29 =>
      (p2 fuel r29.1 r29.2.1 r29.2.2.1 l10 n11 r13.1 r15.1 r29.2.2.2).bind fun r40 =>
      (p3 fuel r29.1 r29.2.1 r29.2.2.1 l10 n11 r40.1 r40.2).bind fun r52 =>
      cond (r52.2.2.2)
      ((chk ((l10.length + 1) * 32 ≤ 140737488355328)).bind fun _ =>
        p0 fuel n r52.1 r52.2.1 r52.2.2.1 (l10 ++ ([(⟨r40.1, r40.2⟩ : T174)] : List T174)) (w64 (n11 - 1)))
      (p0 fuel n r52.1 r52.2.1 r52.2.2.1 l10 (w64 (n11 - 1))))
    (some (v7, v8, v9, l10))
theorem p0_c (fuel : Nat) (n : Nat) (v7 : List Int) (v8 : Int) (v9 : Int) (l10 : List T174) (n11 : Int) (r : (List Int) × Int × Int × (List T174)) (h : p0 fuel n v7 v8 v9 l10 n11 = some r) : TW Try.prog (.loop L0) (I0 v7 v8 v9 l10 n11).sl.st (Q0 r) := by
  refine loop_run (σ := (List Int) × Int × Int × (List T174) × Int) (fun x => I0 x.1 x.2.1 x.2.2.1 x.2.2.2.1 x.2.2.2.2) (fun n x => p0 fuel n x.1 x.2.1 x.2.2.1 x.2.2.2.1 x.2.2.2.2) (Q0) ?_ (fun _ => rfl) (x := (v7, v8, v9, l10, n11)) h
  clear h
  rintro n ⟨v7, v8, v9, l10, n11⟩ r h
  replace h : p0 fuel (n + 1) v7 v8 v9 l10 n11 = some r := h
  rw [p0] at h
  rcases cond_cases h with ⟨h12, h⟩ | ⟨h12, h⟩
  · 
    obtain ⟨r13, h14, h⟩ := bind_cases h
    obtain ⟨r15, h16, h⟩ := bind_cases h
    obtain ⟨r29, h30, h⟩ := bind_cases h
    refine runTo_S (n := 14) (c := (.code L0)) (K := []) (s := (I0 v7 v8 v9 l10 n11).sl) (b := (.code B1)) (K1 := K1) (t := I1 r15.2.f0 r15.2.f1 r15.2.f2 l10 n11 r13.1 r15.1) (l := [(0, 0), (1, 1), (2, 2)])
      (hs := [hA, .g (.env 24 (C.v (vB true))), .call ⟨[(.io none), .ro], 9, [], true, [(.bx (eT108.f r13.2))], (vT r13.1), [[C.own (.im (vS (eI .u8) r13.2.f0)), C.own (vI .i64 r13.2.f1), C.own (vI .u64 r13.2.f2)]], 2⟩, .call ⟨[(.io none), .ro], 9, [], true, [(.bx (eT108.f r15.2))], (vT r15.1), [[C.own (.im (vS (eI .u8) r15.2.f0)), C.own (vI .i64 r15.2.f1), C.own (vI .u64 r15.2.f2)]], 2⟩, .h (.new 2), hA])
      (ps := [C.v (vB (decide (n11 > 0))) = C.v (vB true), CallOK Try.prog 147 [.io (.bx [(.im (vS (eI .u8) v7)), (vI .i64 v8), (vI .u64 v9)]), .ro (vI .i64 3)] [(.bx (eT108.f r13.2))] (vT r13.1), ((eT108.f r13.2) : List V).length = 3, ((eT108.f r13.2) : List V).length = 3 ∨ ([C.own (.im (vS (eI .u8) v7)), C.own (vI .i64 v8), C.own (vI .u64 v9)] : List C).length ≤ 0 + 3, ([C.own (.im (vS (eI .u8) v7)), C.own (vI .i64 v8), C.own (vI .u64 v9)] : List C).take 0 ++ ((eT108.f r13.2) : List V).map C.own ++ ([C.own (.im (vS (eI .u8) v7)), C.own (vI .i64 v8), C.own (vI .u64 v9)] : List C).drop (0 + 3) = [C.own (.im (vS (eI .u8) r13.2.f0)), C.own (vI .i64 r13.2.f1), C.own (vI .u64 r13.2.f2)], CallOK Try.prog 147 [.io (.bx [(.im (vS (eI .u8) r13.2.f0)), (vI .i64 r13.2.f1), (vI .u64 r13.2.f2)]), .ro (vI .i64 3)] [(.bx (eT108.f r15.2))] (vT r15.1), ((eT108.f r15.2) : List V).length = 3, ((eT108.f r15.2) : List V).length = 3 ∨ ([C.own (.im (vS (eI .u8) r13.2.f0)), C.own (vI .i64 r13.2.f1), C.own (vI .u64 r13.2.f2)] : List C).length ≤ 0 + 3, ([C.own (.im (vS (eI .u8) r13.2.f0)), C.own (vI .i64 r13.2.f1), C.own (vI .u64 r13.2.f2)] : List C).take 0 ++ ((eT108.f r15.2) : List V).map C.own ++ ([C.own (.im (vS (eI .u8) r13.2.f0)), C.own (vI .i64 r13.2.f1), C.own (vI .u64 r13.2.f2)] : List C).drop (0 + 3) = [C.own (.im (vS (eI .u8) r15.2.f0)), C.own (vI .i64 r15.2.f1), C.own (vI .u64 r15.2.f2)], 0 = 0, 0 = 0, 0 = 0, l10.length = l10.length, (n11 : Int) = n11, 0 = 0, (own (cs eT174 l10)) = (cs eT174 l10).map C.own, (V.im (vS (eI .u8) r15.2.f0)) = V.im (vS (eI .u8) r15.2.f0), (r15.2.f1 : Int) = r15.2.f1, (r15.2.f2 : Int) = r15.2.f2, Value.string r13.1 = Value.string r13.1, Value.string r15.1 = Value.string r15.1])
      (by kernel_rfl) ⟨vbB h12, F147.fn_c fuel (⟨v7, v8, v9⟩ : T108) 3 _ h14, rfl, .inl rfl, rfl, F147.fn_c fuel r13.2 3 _ h16, rfl, .inl rfl, rfl, rfl, rfl, rfl, rfl, rfl, rfl, rfl, rfl, rfl, rfl, rfl, rfl, trivial⟩ (cut_code ?_)
    refine TW.mono_le (p1_c fuel r15.2.f0 r15.2.f1 r15.2.f2 l10 n11 r13.1 r15.1 _ h30) ?_
    rintro e st hq
    obtain ⟨rfl, hl⟩ := hq
    refine ⟨_, hl, ?_⟩
    obtain ⟨r40, h41, h⟩ := bind_cases h
    refine runTo_S (n := 1) (c := (.out .normal)) (K := K1) (s := (J1_0 r15.2.f0 r15.2.f1 r15.2.f2 l10 n11 r13.1 r15.1 r29).sl) (b := (.code B2)) (K1 := K2) (t := I2 r29.1 r29.2.1 r29.2.2.1 l10 n11 r13.1 r15.1 r29.2.2.2) (l := [(0, 0), (1, 1), (2, 2)])
      (hs := [])
      (ps := [0 = 0, 0 = 0, 0 = 0, l10.length = l10.length, (n11 : Int) = n11, 0 = 0, (r29.2.2.2 : Bool) = r29.2.2.2, (own (cs eT174 l10)) = (cs eT174 l10).map C.own, (V.im (vS (eI .u8) r29.1)) = V.im (vS (eI .u8) r29.1), (r29.2.1 : Int) = r29.2.1, (r29.2.2.1 : Int) = r29.2.2.1, Value.string r13.1 = Value.string r13.1, Value.string r15.1 = Value.string r15.1])
      (by kernel_rfl) ⟨rfl, rfl, rfl, rfl, rfl, rfl, rfl, rfl, rfl, rfl, rfl, rfl, rfl, trivial⟩ (cut_code ?_)
    refine TW.mono_le (p2_c fuel r29.1 r29.2.1 r29.2.2.1 l10 n11 r13.1 r15.1 r29.2.2.2 _ h41) ?_
    rintro e st hq
    obtain ⟨rfl, hl⟩ := hq
    refine ⟨_, hl, ?_⟩
    obtain ⟨r52, h53, h⟩ := bind_cases h
    refine runTo_S (n := 2) (c := (.out .normal)) (K := K2) (s := (J2_0 r29.1 r29.2.1 r29.2.2.1 l10 n11 r13.1 r15.1 r29.2.2.2 r40).sl) (b := (.code B3)) (K1 := K3) (t := I3 r29.1 r29.2.1 r29.2.2.1 l10 n11 r40.1 r40.2) (l := [(0, 0), (1, 1), (2, 2)])
      (hs := [])
      (ps := [0 = 0, 0 = 0, 0 = 0, l10.length = l10.length, (n11 : Int) = n11, 0 = 0, (own (cs eT174 l10)) = (cs eT174 l10).map C.own, (V.im (vS (eI .u8) r29.1)) = V.im (vS (eI .u8) r29.1), (r29.2.1 : Int) = r29.2.1, (r29.2.2.1 : Int) = r29.2.2.1, Value.string r40.1 = Value.string r40.1, Value.string r40.2 = Value.string r40.2])
      (by kernel_rfl) ⟨rfl, rfl, rfl, rfl, rfl, rfl, rfl, rfl, rfl, rfl, rfl, rfl, trivial⟩ (cut_code ?_)
    refine TW.mono_le (p3_c fuel r29.1 r29.2.1 r29.2.2.1 l10 n11 r40.1 r40.2 _ h53) ?_
    rintro e st hq
    obtain ⟨rfl, hl⟩ := hq
    refine ⟨_, hl, ?_⟩
    rcases cond_cases h with ⟨h54, h⟩ | ⟨h54, h⟩
    · 
      obtain ⟨_, h55, h⟩ := bind_cases h
      exact runAt_S (Q := Round _ (n + 1) _) (n := 100000) (c := (.out .normal)) (K := K3) (s := (J3_0 r29.1 r29.2.1 r29.2.2.1 l10 n11 r40.1 r40.2 r52).sl) (e := .normal) (t := I0 r52.1 r52.2.1 r52.2.2.1 (l10 ++ ([(⟨r40.1, r40.2⟩ : T174)] : List T174)) (w64 (n11 - 1))) (l := [(0, 0), (1, 4)])
        (hs := [.g (.env 58 (C.v (vB true))), hA, .h (.new 3), .h (.app 4 (own (cs eT174 (l10 ++ ([(⟨r40.1, r40.2⟩ : T174)] : List T174))))), hA])
        (ps := [C.v (vB r52.2.2.2) = C.v (vB true), 0 + l10.length * 2 ≤ (own (cs eT174 l10)).length, (l10.length + 1) * 32 ≤ 140737488355328, ((own (cs eT174 l10)).drop 0).take (l10.length * 2) ++ [C.own (vT r40.1), C.own (vT r40.2)] = (own (cs eT174 (l10 ++ ([(⟨r40.1, r40.2⟩ : T174)] : List T174)))), 0 = 0, 0 = 0, 0 = 0, l10.length + 1 = (l10 ++ ([(⟨r40.1, r40.2⟩ : T174)] : List T174)).length, (w64 (n11 - 1) : Int) = (w64 (n11 - 1)), (own (cs eT174 (l10 ++ ([(⟨r40.1, r40.2⟩ : T174)] : List T174)))) = (cs eT174 (l10 ++ ([(⟨r40.1, r40.2⟩ : T174)] : List T174))).map C.own, (V.im (vS (eI .u8) r52.1)) = V.im (vS (eI .u8) r52.1), (r52.2.1 : Int) = r52.2.1, (r52.2.2.1 : Int) = r52.2.2.1])
        (by kernel_rfl) ⟨vbB h54, own_len (e := eT174) (rfl), (chk_S h55), own_app (e := eT174) (rfl) rfl, rfl, rfl, rfl, app_ln (rfl) (rfl), rfl, rfl, rfl, rfl, rfl, trivial⟩ (fun st hl => ⟨n, _, Nat.lt_succ_self n, hl, (r52.1, r52.2.1, r52.2.2.1, l10 ++ ([(⟨r40.1, r40.2⟩ : T174)] : List T174), w64 (n11 - 1)), rfl, rfl, h⟩)
    · 
      exact runAt_S (Q := Round _ (n + 1) _) (n := 100000) (c := (.out .normal)) (K := K3) (s := (J3_0 r29.1 r29.2.1 r29.2.2.1 l10 n11 r40.1 r40.2 r52).sl) (e := .normal) (t := I0 r52.1 r52.2.1 r52.2.2.1 l10 (w64 (n11 - 1))) (l := [(0, 0), (1, 1)])
        (hs := [.g (.env 58 (C.v (vB false))), hA])
        (ps := [C.v (vB r52.2.2.2) = C.v (vB false), 0 = 0, 0 = 0, 0 = 0, l10.length = l10.length, (w64 (n11 - 1) : Int) = (w64 (n11 - 1)), (own (cs eT174 l10)) = (cs eT174 l10).map C.own, (V.im (vS (eI .u8) r52.1)) = V.im (vS (eI .u8) r52.1), (r52.2.1 : Int) = r52.2.1, (r52.2.2.1 : Int) = r52.2.2.1])
        (by kernel_rfl) ⟨vbB h54, rfl, rfl, rfl, rfl, rfl, rfl, rfl, rfl, rfl, trivial⟩ (fun st hl => ⟨n, _, Nat.lt_succ_self n, hl, (r52.1, r52.2.1, r52.2.2.1, l10, w64 (n11 - 1)), rfl, rfl, h⟩)
  · 
    obtain rfl := Option.some.inj h
    exact runAt_S (Q := Round _ (n + 1) _) (n := 100000) (c := (.code L0)) (K := []) (s := (I0 v7 v8 v9 l10 n11).sl) (e := (.exit 1)) (t := J0_0 (v7, v8, v9, l10)) (l := [(0, 0), (1, 1)])
      (hs := [hA, .g (.env 24 (C.v (vB false)))])
      (ps := [C.v (vB (decide (n11 > 0))) = C.v (vB false), 0 = 0, 0 = 0, 0 = 0, l10.length = l10.length, (own (cs eT174 l10)) = (cs eT174 l10).map C.own, (V.im (vS (eI .u8) v7)) = V.im (vS (eI .u8) v7), (v8 : Int) = v8, (v9 : Int) = v9])
      (by kernel_rfl) ⟨vbB h12, rfl, rfl, rfl, rfl, rfl, rfl, rfl, rfl, trivial⟩ (fun st hl => ⟨rfl, hl⟩)
def I4 (v58 : List Int) (v59 : Int) (v60 : Int) (l61 : List T174) : TL := ⟨77, [C.pr 0 0], [(0, C.pr 0 0), (3, C.sr 1 0 2 l61.length)], [(1, (cs eT174 l61))], [(0, [C.own (.im (vS (eI .u8) v58)), C.own (vI .i64 v59), C.own (vI .u64 v60)])]⟩
def J4_0 (v58 : List Int) (v59 : Int) (v60 : Int) (l61 : List T174) (o : (List Int) × Int × Int × Bool) : TL := ⟨77, [C.pr 0 0], [(0, C.pr 0 0), (3, C.sr 1 0 2 l61.length), (69, C.v (vB o.2.2.2))], [(1, (cs eT174 l61))], [(0, [C.own (.im (vS (eI .u8) o.1)), C.own (vI .i64 o.2.1), C.own (vI .u64 o.2.2.1)])]⟩
def Q4 (v58 : List Int) (v59 : Int) (v60 : Int) (l61 : List T174) (r : (List Int) × Int × Int × Bool) (e : Exit) (st : St) : Prop := (fun o => e = .normal ∧ Le st (J4_0 v58 v59 v60 l61 o).sl.st) r
def p4 (fuel : Nat) (v58 : List Int) (v59 : Int) (v60 : Int) (l61 : List T174) : Option ((List Int) × Int × Int × Bool) :=
  cond (decide ((l61.length : Int) > 0))
  ((F87.fn fuel (⟨v58, v59, v60⟩ : T108) 30).bind fun r63 =>
    some (r63.2.f0, r63.2.f1, r63.2.f2, r63.1))
  (some (v58, v59, v60, false))
theorem p4_c (fuel : Nat) (v58 : List Int) (v59 : Int) (v60 : Int) (l61 : List T174) (r : (List Int) × Int × Int × Bool) (h : p4 fuel v58 v59 v60 l61 = some r) : TW Try.prog B4 (I4 v58 v59 v60 l61).sl.st (Q4 v58 v59 v60 l61 r) := by
  unfold p4 at h
  rcases cond_cases h with ⟨h62, h⟩ | ⟨h62, h⟩
  · 
    obtain ⟨r63, h64, h⟩ := bind_cases h
    obtain rfl := Option.some.inj h
    exact runAt_S (Q := Q4 v58 v59 v60 l61 _) (n := 100000) (c := (.code B4)) (K := []) (s := (I4 v58 v59 v60 l61).sl) (e := .normal) (t := J4_0 v58 v59 v60 l61 (r63.2.f0, r63.2.f1, r63.2.f2, r63.1)) (l := [(0, 0), (1, 1)])
      (hs := [hA, hA, .skip, .g (.env 66 (C.v (vB true))), .call ⟨[(.io none), .ro], 9, [], true, [(.bx (eT108.f r63.2))], (vB r63.1), [[C.own (.im (vS (eI .u8) r63.2.f0)), C.own (vI .i64 r63.2.f1), C.own (vI .u64 r63.2.f2)]], 2⟩])
      (ps := [C.v (vB (decide ((l61.length : Int) > 0))) = C.v (vB true), CallOK Try.prog 87 [.io (.bx [(.im (vS (eI .u8) v58)), (vI .i64 v59), (vI .u64 v60)]), .ro (vI .i64 30)] [(.bx (eT108.f r63.2))] (vB r63.1), ((eT108.f r63.2) : List V).length = 3, ((eT108.f r63.2) : List V).length = 3 ∨ ([C.own (.im (vS (eI .u8) v58)), C.own (vI .i64 v59), C.own (vI .u64 v60)] : List C).length ≤ 0 + 3, ([C.own (.im (vS (eI .u8) v58)), C.own (vI .i64 v59), C.own (vI .u64 v60)] : List C).take 0 ++ ((eT108.f r63.2) : List V).map C.own ++ ([C.own (.im (vS (eI .u8) v58)), C.own (vI .i64 v59), C.own (vI .u64 v60)] : List C).drop (0 + 3) = [C.own (.im (vS (eI .u8) r63.2.f0)), C.own (vI .i64 r63.2.f1), C.own (vI .u64 r63.2.f2)], 0 = 0, 0 = 0, 0 = 0, l61.length = l61.length, (r63.1 : Bool) = r63.1, (own (cs eT174 l61)) = (cs eT174 l61).map C.own, (V.im (vS (eI .u8) r63.2.f0)) = V.im (vS (eI .u8) r63.2.f0), (r63.2.f1 : Int) = r63.2.f1, (r63.2.f2 : Int) = r63.2.f2])
      (by kernel_rfl) ⟨vbB h62, F87.fn_c fuel (⟨v58, v59, v60⟩ : T108) 30 _ h64, rfl, .inl rfl, rfl, rfl, rfl, rfl, rfl, rfl, rfl, rfl, rfl, rfl, trivial⟩ (fun st hl => ⟨rfl, hl⟩)
  · 
    obtain rfl := Option.some.inj h
    exact runAt_S (Q := Q4 v58 v59 v60 l61 _) (n := 100000) (c := (.code B4)) (K := []) (s := (I4 v58 v59 v60 l61).sl) (e := .normal) (t := J4_0 v58 v59 v60 l61 (v58, v59, v60, false)) (l := [(0, 0), (1, 1)])
      (hs := [hA, hA, .skip, .g (.env 66 (C.v (vB false)))])
      (ps := [C.v (vB (decide ((l61.length : Int) > 0))) = C.v (vB false), 0 = 0, 0 = 0, 0 = 0, l61.length = l61.length, (false : Bool) = false, (own (cs eT174 l61)) = (cs eT174 l61).map C.own, (V.im (vS (eI .u8) v58)) = V.im (vS (eI .u8) v58), (v59 : Int) = v59, (v60 : Int) = v60])
      (by kernel_rfl) ⟨vbB h62, rfl, rfl, rfl, rfl, rfl, rfl, rfl, rfl, rfl, trivial⟩ (fun st hl => ⟨rfl, hl⟩)
def fn (fuel : Nat) (c0 : T108) : Option ((List T174) × T108) :=
  (F88.fn fuel c0 6).bind fun r1 =>
  cond (decide (r1.1 = 0))
  (some (([(⟨⟨#[97, 97]⟩, ByteArray.empty⟩ : T174), (⟨⟨#[98, 97]⟩, ⟨#[97, 98]⟩⟩ : T174), (⟨⟨#[98, 98, 98]⟩, ByteArray.empty⟩ : T174)] : List T174), r1.2))
  (cond (decide (r1.1 = 1))
    (some (([(⟨⟨#[98, 97]⟩, ⟨#[97, 98]⟩⟩ : T174), (⟨⟨#[99, 98]⟩, ⟨#[98, 99]⟩⟩ : T174), (⟨⟨#[99, 97]⟩, ⟨#[97, 99]⟩⟩ : T174)] : List T174), r1.2))
    ((F88.fn fuel r1.2 4).bind fun r5 =>
      (p0 fuel fuel r5.2.f0 r5.2.f1 r5.2.f2 ([] : List T174) r5.1).bind fun r56 =>
      (p4 fuel r56.1 r56.2.1 r56.2.2.1 r56.2.2.2).bind fun r65 =>
      cond (r65.2.2.2)
      ((F148.fn fuel (⟨r65.1, r65.2.1, r65.2.2.1⟩ : T108) ([⟨#[101]⟩, ⟨#[97, 97, 97, 97, 97, 97, 97]⟩] : List ByteArray)).bind fun r68 =>
        (idx 0 r56.2.2.2.length).bind fun j70 =>
        some (r56.2.2.2.set j70 (T174.s1 (r56.2.2.2.getD j70 (default : T174)) r68.1), r68.2))
      (some (r56.2.2.2, (⟨r65.1, r65.2.1, r65.2.2.1⟩ : T108)))))
theorem ent : enterable Try.prog 84 = true := by kernel_rfl
theorem fn_c (fuel : Nat) (c0 : T108) (r : (List T174) × T108) (h : fn fuel c0 = some r) : CallOK Try.prog 84 [.io (.bx (eT108.f c0))] [(.bx (eT108.f r.2))] (vS eT174 r.1) := by
  refine contract_run Try.func84 (b := bod Try.f84) rfl ent ?_
  unfold fn at h
  obtain ⟨r1, h2, h⟩ := bind_cases h
  rcases cond_cases h with ⟨h3, h⟩ | ⟨h3, h⟩
  · 
    obtain rfl := Option.some.inj h
    exact runRet_S (r := ⟨Try.f84.results.toList, _, _, _, [(1, (cs eT174 ([(⟨⟨#[97, 97]⟩, ByteArray.empty⟩ : T174), (⟨⟨#[98, 97]⟩, ⟨#[97, 98]⟩⟩ : T174), (⟨⟨#[98, 98, 98]⟩, ByteArray.empty⟩ : T174)] : List T174)), (cs eT174 ([(⟨⟨#[97, 97]⟩, ByteArray.empty⟩ : T174), (⟨⟨#[98, 97]⟩, ⟨#[97, 98]⟩⟩ : T174), (⟨⟨#[98, 98, 98]⟩, ByteArray.empty⟩ : T174)] : List T174)))], 9⟩) (n := 100000) (c := (.code (bod Try.f84))) (K := [])
      (hs := [.call ⟨[(.io none), .ro], 9, [], true, [(.bx (eT108.f r1.2))], (vI .i64 r1.1), [[C.own (.im (vS (eI .u8) r1.2.f0)), C.own (vI .i64 r1.2.f1), C.own (vI .u64 r1.2.f2)]], 1⟩, hA, .skip, .g (.env 9 (C.v (vB true))), .h (.new 1)])
      (ps := [CallOK Try.prog 88 [.io (.bx [(.im (vS (eI .u8) c0.f0)), (vI .i64 c0.f1), (vI .u64 c0.f2)]), .ro (vI .i64 6)] [(.bx (eT108.f r1.2))] (vI .i64 r1.1), ((eT108.f r1.2) : List V).length = 3, ((eT108.f r1.2) : List V).length = 3 ∨ ([C.own (.im (vS (eI .u8) c0.f0)), C.own (vI .i64 c0.f1), C.own (vI .u64 c0.f2)] : List C).length ≤ 0 + 3, ([C.own (.im (vS (eI .u8) c0.f0)), C.own (vI .i64 c0.f1), C.own (vI .u64 c0.f2)] : List C).take 0 ++ ((eT108.f r1.2) : List V).map C.own ++ ([C.own (.im (vS (eI .u8) c0.f0)), C.own (vI .i64 c0.f1), C.own (vI .u64 c0.f2)] : List C).drop (0 + 3) = [C.own (.im (vS (eI .u8) r1.2.f0)), C.own (vI .i64 r1.2.f1), C.own (vI .u64 r1.2.f2)], C.v (vB (decide (r1.1 = 0))) = C.v (vB true), (own (cs eT174 ([(⟨⟨#[97, 97]⟩, ByteArray.empty⟩ : T174), (⟨⟨#[98, 97]⟩, ⟨#[97, 98]⟩⟩ : T174), (⟨⟨#[98, 98, 98]⟩, ByteArray.empty⟩ : T174)] : List T174))) = (cs eT174 ([(⟨⟨#[97, 97]⟩, ByteArray.empty⟩ : T174), (⟨⟨#[98, 97]⟩, ⟨#[97, 98]⟩⟩ : T174), (⟨⟨#[98, 98, 98]⟩, ByteArray.empty⟩ : T174)] : List T174)).map C.own, 0 + 3 * 2 ≤ (cs eT174 ([(⟨⟨#[97, 97]⟩, ByteArray.empty⟩ : T174), (⟨⟨#[98, 97]⟩, ⟨#[97, 98]⟩⟩ : T174), (⟨⟨#[98, 98, 98]⟩, ByteArray.empty⟩ : T174)] : List T174)).length, ((cs eT174 ([(⟨⟨#[97, 97]⟩, ByteArray.empty⟩ : T174), (⟨⟨#[98, 97]⟩, ⟨#[97, 98]⟩⟩ : T174), (⟨⟨#[98, 98, 98]⟩, ByteArray.empty⟩ : T174)] : List T174)).drop (0)).take (3 * 2) = (cs eT174 ([(⟨⟨#[97, 97]⟩, ByteArray.empty⟩ : T174), (⟨⟨#[98, 97]⟩, ⟨#[97, 98]⟩⟩ : T174), (⟨⟨#[98, 98, 98]⟩, ByteArray.empty⟩ : T174)] : List T174)), ((.bx [(.im (vS (eI .u8) r1.2.f0)), (vI .i64 r1.2.f1), (vI .u64 r1.2.f2)]) : V) = (.bx (eT108.f r1.2)), ((.sl 2 3 (cs eT174 ([(⟨⟨#[97, 97]⟩, ByteArray.empty⟩ : T174), (⟨⟨#[98, 97]⟩, ⟨#[97, 98]⟩⟩ : T174), (⟨⟨#[98, 98, 98]⟩, ByteArray.empty⟩ : T174)] : List T174))) : V) = (vS eT174 ([(⟨⟨#[97, 97]⟩, ByteArray.empty⟩ : T174), (⟨⟨#[98, 97]⟩, ⟨#[97, 98]⟩⟩ : T174), (⟨⟨#[98, 98, 98]⟩, ByteArray.empty⟩ : T174)] : List T174))])
      (by kernel_rfl) ⟨F88.fn_c fuel c0 6 _ h2, rfl, .inl rfl, rfl, vbB h3, rfl, len_all (e := eT174) (rfl), take_cs (e := eT174) (rfl), rfl, rfl, trivial⟩ rfl (fun _ _ h => h)
  · 
    rcases cond_cases h with ⟨h4, h⟩ | ⟨h4, h⟩
    · 
      obtain rfl := Option.some.inj h
      exact runRet_S (r := ⟨Try.f84.results.toList, _, _, _, [(1, (cs eT174 ([(⟨⟨#[98, 97]⟩, ⟨#[97, 98]⟩⟩ : T174), (⟨⟨#[99, 98]⟩, ⟨#[98, 99]⟩⟩ : T174), (⟨⟨#[99, 97]⟩, ⟨#[97, 99]⟩⟩ : T174)] : List T174)), (cs eT174 ([(⟨⟨#[98, 97]⟩, ⟨#[97, 98]⟩⟩ : T174), (⟨⟨#[99, 98]⟩, ⟨#[98, 99]⟩⟩ : T174), (⟨⟨#[99, 97]⟩, ⟨#[97, 99]⟩⟩ : T174)] : List T174)))], 9⟩) (n := 100000) (c := (.code (bod Try.f84))) (K := [])
        (hs := [.call ⟨[(.io none), .ro], 9, [], true, [(.bx (eT108.f r1.2))], (vI .i64 r1.1), [[C.own (.im (vS (eI .u8) r1.2.f0)), C.own (vI .i64 r1.2.f1), C.own (vI .u64 r1.2.f2)]], 1⟩, hA, .skip, .g (.env 9 (C.v (vB false))), hA, .skip, .g (.env 15 (C.v (vB true))), .h (.new 1)])
        (ps := [CallOK Try.prog 88 [.io (.bx [(.im (vS (eI .u8) c0.f0)), (vI .i64 c0.f1), (vI .u64 c0.f2)]), .ro (vI .i64 6)] [(.bx (eT108.f r1.2))] (vI .i64 r1.1), ((eT108.f r1.2) : List V).length = 3, ((eT108.f r1.2) : List V).length = 3 ∨ ([C.own (.im (vS (eI .u8) c0.f0)), C.own (vI .i64 c0.f1), C.own (vI .u64 c0.f2)] : List C).length ≤ 0 + 3, ([C.own (.im (vS (eI .u8) c0.f0)), C.own (vI .i64 c0.f1), C.own (vI .u64 c0.f2)] : List C).take 0 ++ ((eT108.f r1.2) : List V).map C.own ++ ([C.own (.im (vS (eI .u8) c0.f0)), C.own (vI .i64 c0.f1), C.own (vI .u64 c0.f2)] : List C).drop (0 + 3) = [C.own (.im (vS (eI .u8) r1.2.f0)), C.own (vI .i64 r1.2.f1), C.own (vI .u64 r1.2.f2)], C.v (vB (decide (r1.1 = 0))) = C.v (vB false), C.v (vB (decide (r1.1 = 1))) = C.v (vB true), (own (cs eT174 ([(⟨⟨#[98, 97]⟩, ⟨#[97, 98]⟩⟩ : T174), (⟨⟨#[99, 98]⟩, ⟨#[98, 99]⟩⟩ : T174), (⟨⟨#[99, 97]⟩, ⟨#[97, 99]⟩⟩ : T174)] : List T174))) = (cs eT174 ([(⟨⟨#[98, 97]⟩, ⟨#[97, 98]⟩⟩ : T174), (⟨⟨#[99, 98]⟩, ⟨#[98, 99]⟩⟩ : T174), (⟨⟨#[99, 97]⟩, ⟨#[97, 99]⟩⟩ : T174)] : List T174)).map C.own, 0 + 3 * 2 ≤ (cs eT174 ([(⟨⟨#[98, 97]⟩, ⟨#[97, 98]⟩⟩ : T174), (⟨⟨#[99, 98]⟩, ⟨#[98, 99]⟩⟩ : T174), (⟨⟨#[99, 97]⟩, ⟨#[97, 99]⟩⟩ : T174)] : List T174)).length, ((cs eT174 ([(⟨⟨#[98, 97]⟩, ⟨#[97, 98]⟩⟩ : T174), (⟨⟨#[99, 98]⟩, ⟨#[98, 99]⟩⟩ : T174), (⟨⟨#[99, 97]⟩, ⟨#[97, 99]⟩⟩ : T174)] : List T174)).drop (0)).take (3 * 2) = (cs eT174 ([(⟨⟨#[98, 97]⟩, ⟨#[97, 98]⟩⟩ : T174), (⟨⟨#[99, 98]⟩, ⟨#[98, 99]⟩⟩ : T174), (⟨⟨#[99, 97]⟩, ⟨#[97, 99]⟩⟩ : T174)] : List T174)), ((.bx [(.im (vS (eI .u8) r1.2.f0)), (vI .i64 r1.2.f1), (vI .u64 r1.2.f2)]) : V) = (.bx (eT108.f r1.2)), ((.sl 2 3 (cs eT174 ([(⟨⟨#[98, 97]⟩, ⟨#[97, 98]⟩⟩ : T174), (⟨⟨#[99, 98]⟩, ⟨#[98, 99]⟩⟩ : T174), (⟨⟨#[99, 97]⟩, ⟨#[97, 99]⟩⟩ : T174)] : List T174))) : V) = (vS eT174 ([(⟨⟨#[98, 97]⟩, ⟨#[97, 98]⟩⟩ : T174), (⟨⟨#[99, 98]⟩, ⟨#[98, 99]⟩⟩ : T174), (⟨⟨#[99, 97]⟩, ⟨#[97, 99]⟩⟩ : T174)] : List T174))])
        (by kernel_rfl) ⟨F88.fn_c fuel c0 6 _ h2, rfl, .inl rfl, rfl, vbB h3, vbB h4, rfl, len_all (e := eT174) (rfl), take_cs (e := eT174) (rfl), rfl, rfl, trivial⟩ rfl (fun _ _ h => h)
    · 
      obtain ⟨r5, h6, h⟩ := bind_cases h
      obtain ⟨r56, h57, h⟩ := bind_cases h
      refine runTo_S (n := 100000) (c := (.code (bod Try.f84))) (K := []) (b := (.code (.loop L0))) (K1 := K0) (t := I0 r5.2.f0 r5.2.f1 r5.2.f2 ([] : List T174) r5.1) (l := [(0, 0), (1, 1)])
        (hs := [.call ⟨[(.io none), .ro], 9, [], true, [(.bx (eT108.f r1.2))], (vI .i64 r1.1), [[C.own (.im (vS (eI .u8) r1.2.f0)), C.own (vI .i64 r1.2.f1), C.own (vI .u64 r1.2.f2)]], 1⟩, hA, .skip, .g (.env 9 (C.v (vB false))), hA, .skip, .g (.env 15 (C.v (vB false))), .call ⟨[(.io none), .ro], 9, [], true, [(.bx (eT108.f r5.2))], (vI .i64 r5.1), [[C.own (.im (vS (eI .u8) r5.2.f0)), C.own (vI .i64 r5.2.f1), C.own (vI .u64 r5.2.f2)]], 1⟩, .skip, .g (.nilE 3 1 2)])
        (ps := [CallOK Try.prog 88 [.io (.bx [(.im (vS (eI .u8) c0.f0)), (vI .i64 c0.f1), (vI .u64 c0.f2)]), .ro (vI .i64 6)] [(.bx (eT108.f r1.2))] (vI .i64 r1.1), ((eT108.f r1.2) : List V).length = 3, ((eT108.f r1.2) : List V).length = 3 ∨ ([C.own (.im (vS (eI .u8) c0.f0)), C.own (vI .i64 c0.f1), C.own (vI .u64 c0.f2)] : List C).length ≤ 0 + 3, ([C.own (.im (vS (eI .u8) c0.f0)), C.own (vI .i64 c0.f1), C.own (vI .u64 c0.f2)] : List C).take 0 ++ ((eT108.f r1.2) : List V).map C.own ++ ([C.own (.im (vS (eI .u8) c0.f0)), C.own (vI .i64 c0.f1), C.own (vI .u64 c0.f2)] : List C).drop (0 + 3) = [C.own (.im (vS (eI .u8) r1.2.f0)), C.own (vI .i64 r1.2.f1), C.own (vI .u64 r1.2.f2)], C.v (vB (decide (r1.1 = 0))) = C.v (vB false), C.v (vB (decide (r1.1 = 1))) = C.v (vB false), CallOK Try.prog 88 [.io (.bx [(.im (vS (eI .u8) r1.2.f0)), (vI .i64 r1.2.f1), (vI .u64 r1.2.f2)]), .ro (vI .i64 4)] [(.bx (eT108.f r5.2))] (vI .i64 r5.1), ((eT108.f r5.2) : List V).length = 3, ((eT108.f r5.2) : List V).length = 3 ∨ ([C.own (.im (vS (eI .u8) r1.2.f0)), C.own (vI .i64 r1.2.f1), C.own (vI .u64 r1.2.f2)] : List C).length ≤ 0 + 3, ([C.own (.im (vS (eI .u8) r1.2.f0)), C.own (vI .i64 r1.2.f1), C.own (vI .u64 r1.2.f2)] : List C).take 0 ++ ((eT108.f r5.2) : List V).map C.own ++ ([C.own (.im (vS (eI .u8) r1.2.f0)), C.own (vI .i64 r1.2.f1), C.own (vI .u64 r1.2.f2)] : List C).drop (0 + 3) = [C.own (.im (vS (eI .u8) r5.2.f0)), C.own (vI .i64 r5.2.f1), C.own (vI .u64 r5.2.f2)], 0 = 0, 0 = 0, 0 = 0, 0 = ([] : List T174).length, (r5.1 : Int) = r5.1, (own (cs eT174 ([] : List T174))) = (cs eT174 ([] : List T174)).map C.own, (V.im (vS (eI .u8) r5.2.f0)) = V.im (vS (eI .u8) r5.2.f0), (r5.2.f1 : Int) = r5.2.f1, (r5.2.f2 : Int) = r5.2.f2])
        (by kernel_rfl) ⟨F88.fn_c fuel c0 6 _ h2, rfl, .inl rfl, rfl, vbB h3, vbB h4, F88.fn_c fuel r1.2 4 _ h6, rfl, .inl rfl, rfl, rfl, rfl, rfl, rfl, rfl, rfl, rfl, rfl, rfl, trivial⟩ (cut_code ?_)
      refine TW.mono_le (p0_c fuel fuel r5.2.f0 r5.2.f1 r5.2.f2 ([] : List T174) r5.1 _ h57) ?_
      rintro e st hq
      obtain ⟨rfl, hl⟩ := hq
      refine ⟨_, hl, ?_⟩
      obtain ⟨r65, h66, h⟩ := bind_cases h
      refine runTo_S (n := 4) (c := (.out (.exit 1))) (K := K0) (s := (J0_0 r56).sl) (b := (.code B4)) (K1 := K4) (t := I4 r56.1 r56.2.1 r56.2.2.1 r56.2.2.2) (l := [(0, 0), (1, 1)])
        (hs := [])
        (ps := [0 = 0, 0 = 0, 0 = 0, r56.2.2.2.length = r56.2.2.2.length, (own (cs eT174 r56.2.2.2)) = (cs eT174 r56.2.2.2).map C.own, (V.im (vS (eI .u8) r56.1)) = V.im (vS (eI .u8) r56.1), (r56.2.1 : Int) = r56.2.1, (r56.2.2.1 : Int) = r56.2.2.1])
        (by kernel_rfl) ⟨rfl, rfl, rfl, rfl, rfl, rfl, rfl, rfl, trivial⟩ (cut_code ?_)
      refine TW.mono_le (p4_c fuel r56.1 r56.2.1 r56.2.2.1 r56.2.2.2 _ h66) ?_
      rintro e st hq
      obtain ⟨rfl, hl⟩ := hq
      refine ⟨_, hl, ?_⟩
      rcases cond_cases h with ⟨h67, h⟩ | ⟨h67, h⟩
      · 
        obtain ⟨r68, h69, h⟩ := bind_cases h
        obtain ⟨j70, h71, h⟩ := bind_cases h
        obtain rfl := Option.some.inj h
        exact runRet_S (r := ⟨Try.f84.results.toList, _, _, _, [(1, (cs eT174 (r56.2.2.2.set j70 (T174.s1 (r56.2.2.2.getD j70 (default : T174)) r68.1))), (cs eT174 (r56.2.2.2.set j70 (T174.s1 (r56.2.2.2.getD j70 (default : T174)) r68.1))))], 9⟩) (n := 100000) (c := (.out .normal)) (K := K4) (s := (J4_0 r56.1 r56.2.1 r56.2.2.1 r56.2.2.2 r65).sl)
          (hs := [.g (.env 69 (C.v (vB true))), .h (.new 2), .call ⟨[(.io none), .own], 9, [(2, (cs eT ([⟨#[101]⟩, ⟨#[97, 97, 97, 97, 97, 97, 97]⟩] : List ByteArray)), (cs eT ([⟨#[101]⟩, ⟨#[97, 97, 97, 97, 97, 97, 97]⟩] : List ByteArray)))], true, [(.bx (eT108.f r68.2))], (vT r68.1), [[C.own (.im (vS (eI .u8) r68.2.f0)), C.own (vI .i64 r68.2.f1), C.own (vI .u64 r68.2.f2)]], 3⟩, .h (.idx j70 false), .h (.cells (own (cs eT174 (r56.2.2.2.set j70 (T174.s1 (r56.2.2.2.getD j70 (default : T174)) r68.1)))))])
          (ps := [C.v (vB r65.2.2.2) = C.v (vB true), CallOK Try.prog 148 [.io (.bx [(.im (vS (eI .u8) r65.1)), (vI .i64 r65.2.1), (vI .u64 r65.2.2.1)]), .own (.sl 1 2 (cs eT ([⟨#[101]⟩, ⟨#[97, 97, 97, 97, 97, 97, 97]⟩] : List ByteArray)))] [(.bx (eT108.f r68.2))] (vT r68.1), (own (cs eT ([⟨#[101]⟩, ⟨#[97, 97, 97, 97, 97, 97, 97]⟩] : List ByteArray))) = (cs eT ([⟨#[101]⟩, ⟨#[97, 97, 97, 97, 97, 97, 97]⟩] : List ByteArray)).map C.own, 0 + 2 * 1 ≤ (cs eT ([⟨#[101]⟩, ⟨#[97, 97, 97, 97, 97, 97, 97]⟩] : List ByteArray)).length, ((cs eT ([⟨#[101]⟩, ⟨#[97, 97, 97, 97, 97, 97, 97]⟩] : List ByteArray)).drop (0)).take (2 * 1) = (cs eT ([⟨#[101]⟩, ⟨#[97, 97, 97, 97, 97, 97, 97]⟩] : List ByteArray)), ((eT108.f r68.2) : List V).length = 3, ((eT108.f r68.2) : List V).length = 3 ∨ ([C.own (.im (vS (eI .u8) r65.1)), C.own (vI .i64 r65.2.1), C.own (vI .u64 r65.2.2.1)] : List C).length ≤ 0 + 3, ([C.own (.im (vS (eI .u8) r65.1)), C.own (vI .i64 r65.2.1), C.own (vI .u64 r65.2.2.1)] : List C).take 0 ++ ((eT108.f r68.2) : List V).map C.own ++ ([C.own (.im (vS (eI .u8) r65.1)), C.own (vI .i64 r65.2.1), C.own (vI .u64 r65.2.2.1)] : List C).drop (0 + 3) = [C.own (.im (vS (eI .u8) r68.2.f0)), C.own (vI .i64 r68.2.f1), C.own (vI .u64 r68.2.f2)], 0 = (j70 : Int), j70 < r56.2.2.2.length, 0 + j70 * 2 + 1 + 1 ≤ (own (cs eT174 r56.2.2.2)).length, setRange (own (cs eT174 r56.2.2.2)) (0 + j70 * 2 + 1) [C.own (vT r68.1)] = (own (cs eT174 (r56.2.2.2.set j70 (T174.s1 (r56.2.2.2.getD j70 (default : T174)) r68.1)))), (own (cs eT174 (r56.2.2.2.set j70 (T174.s1 (r56.2.2.2.getD j70 (default : T174)) r68.1)))) = (cs eT174 (r56.2.2.2.set j70 (T174.s1 (r56.2.2.2.getD j70 (default : T174)) r68.1))).map C.own, 0 + r56.2.2.2.length * 2 ≤ (cs eT174 (r56.2.2.2.set j70 (T174.s1 (r56.2.2.2.getD j70 (default : T174)) r68.1))).length, ((cs eT174 (r56.2.2.2.set j70 (T174.s1 (r56.2.2.2.getD j70 (default : T174)) r68.1))).drop (0)).take (r56.2.2.2.length * 2) = (cs eT174 (r56.2.2.2.set j70 (T174.s1 (r56.2.2.2.getD j70 (default : T174)) r68.1))), ((.bx [(.im (vS (eI .u8) r68.2.f0)), (vI .i64 r68.2.f1), (vI .u64 r68.2.f2)]) : V) = (.bx (eT108.f r68.2)), ((.sl 2 r56.2.2.2.length (cs eT174 (r56.2.2.2.set j70 (T174.s1 (r56.2.2.2.getD j70 (default : T174)) r68.1)))) : V) = (vS eT174 (r56.2.2.2.set j70 (T174.s1 (r56.2.2.2.getD j70 (default : T174)) r68.1)))])
          (by kernel_rfl) ⟨vbB h67, F148.fn_c fuel (⟨r65.1, r65.2.1, r65.2.2.1⟩ : T108) ([⟨#[101]⟩, ⟨#[97, 97, 97, 97, 97, 97, 97]⟩] : List ByteArray) _ h69, rfl, len_all (e := eT) (rfl), take_cs (e := eT) (rfl), rfl, .inl rfl, rfl, (idx_S h71).1, (idx_S h71).2, own_room1 (e := eT174) (k := 1) (idx_S h71).2 (by decide), own_set1 (e := eT174) (k := 1) (d := (default : T174)) (idx_S h71).2 rfl (by decide), rfl, len_all (e := eT174) (set_ln), take_cs (e := eT174) (set_ln), rfl, (by rw [show r56.2.2.2.length = (r56.2.2.2.set j70 (T174.s1 (r56.2.2.2.getD j70 (default : T174)) r68.1)).length from (set_ln)]; try rfl), trivial⟩ rfl (fun _ _ h => h)
      · 
        obtain rfl := Option.some.inj h
        exact runRet_S (r := ⟨Try.f84.results.toList, _, _, _, [(1, (cs eT174 r56.2.2.2), (cs eT174 r56.2.2.2))], 9⟩) (n := 100000) (c := (.out .normal)) (K := K4) (s := (J4_0 r56.1 r56.2.1 r56.2.2.1 r56.2.2.2 r65).sl)
          (hs := [.g (.env 69 (C.v (vB false)))])
          (ps := [C.v (vB r65.2.2.2) = C.v (vB false), (own (cs eT174 r56.2.2.2)) = (cs eT174 r56.2.2.2).map C.own, 0 + r56.2.2.2.length * 2 ≤ (cs eT174 r56.2.2.2).length, ((cs eT174 r56.2.2.2).drop (0)).take (r56.2.2.2.length * 2) = (cs eT174 r56.2.2.2), ((.bx [(.im (vS (eI .u8) r65.1)), (vI .i64 r65.2.1), (vI .u64 r65.2.2.1)]) : V) = (.bx (eT108.f (⟨r65.1, r65.2.1, r65.2.2.1⟩ : T108))), ((.sl 2 r56.2.2.2.length (cs eT174 r56.2.2.2)) : V) = (vS eT174 r56.2.2.2)])
          (by kernel_rfl) ⟨vbB h67, rfl, len_all (e := eT174) (rfl), take_cs (e := eT174) (rfl), rfl, rfl, trivial⟩ rfl (fun _ _ h => h)
end F84
namespace F85
/-! (*spec.l1Cur).word15 -/
def fn (fuel : Nat) (c0 : T108) : Option (ByteArray × T108) :=
  (F147.fn fuel c0 12).bind fun r1 =>
  (F87.fn fuel r1.2 20).bind fun r3 =>
  cond (r3.1)
  ((F148.fn fuel r3.2 ([⟨#[101]⟩, ⟨#[100, 100, 100, 100, 100, 100, 100, 100, 100, 100, 100, 100, 100, 100, 100, 100, 100, 100, 100, 100, 100, 100, 100, 100, 100, 100, 100, 100, 100, 100, 100, 100, 100, 100, 100, 100, 100, 100, 100, 100]⟩] : List ByteArray)).bind fun r6 =>
    (chk (r1.1.size + r6.1.size ≤ 9223372036854775807)).bind fun _ =>
    some (r1.1 ++ r6.1, r6.2))
  (some (r1.1, r3.2))
theorem ent : enterable Try.prog 85 = true := by kernel_rfl
theorem fn_c (fuel : Nat) (c0 : T108) (r : ByteArray × T108) (h : fn fuel c0 = some r) : CallOK Try.prog 85 [.io (.bx (eT108.f c0))] [(.bx (eT108.f r.2))] (vT r.1) := by
  refine contract_run Try.func85 (b := bod Try.f85) rfl ent ?_
  unfold fn at h
  obtain ⟨r1, h2, h⟩ := bind_cases h
  obtain ⟨r3, h4, h⟩ := bind_cases h
  rcases cond_cases h with ⟨h5, h⟩ | ⟨h5, h⟩
  · 
    obtain ⟨r6, h7, h⟩ := bind_cases h
    obtain ⟨_, h8, h⟩ := bind_cases h
    obtain rfl := Option.some.inj h
    exact runRet_S (r := ⟨Try.f85.results.toList, _, _, _, [], 9⟩) (n := 100000) (c := (.code (bod Try.f85))) (K := [])
      (hs := [.call ⟨[(.io none), .ro], 9, [], true, [(.bx (eT108.f r1.2))], (vT r1.1), [[C.own (.im (vS (eI .u8) r1.2.f0)), C.own (vI .i64 r1.2.f1), C.own (vI .u64 r1.2.f2)]], 1⟩, .call ⟨[(.io none), .ro], 9, [], true, [(.bx (eT108.f r3.2))], (vB r3.1), [[C.own (.im (vS (eI .u8) r3.2.f0)), C.own (vI .i64 r3.2.f1), C.own (vI .u64 r3.2.f2)]], 1⟩, .g (.env 7 (C.v (vB true))), .h (.new 1), .call ⟨[(.io none), .own], 9, [(1, (cs eT ([⟨#[101]⟩, ⟨#[100, 100, 100, 100, 100, 100, 100, 100, 100, 100, 100, 100, 100, 100, 100, 100, 100, 100, 100, 100, 100, 100, 100, 100, 100, 100, 100, 100, 100, 100, 100, 100, 100, 100, 100, 100, 100, 100, 100, 100]⟩] : List ByteArray)), (cs eT ([⟨#[101]⟩, ⟨#[100, 100, 100, 100, 100, 100, 100, 100, 100, 100, 100, 100, 100, 100, 100, 100, 100, 100, 100, 100, 100, 100, 100, 100, 100, 100, 100, 100, 100, 100, 100, 100, 100, 100, 100, 100, 100, 100, 100, 100]⟩] : List ByteArray)))], true, [(.bx (eT108.f r6.2))], (vT r6.1), [[C.own (.im (vS (eI .u8) r6.2.f0)), C.own (vI .i64 r6.2.f1), C.own (vI .u64 r6.2.f2)]], 2⟩, .h .sa])
      (ps := [CallOK Try.prog 147 [.io (.bx [(.im (vS (eI .u8) c0.f0)), (vI .i64 c0.f1), (vI .u64 c0.f2)]), .ro (vI .i64 12)] [(.bx (eT108.f r1.2))] (vT r1.1), ((eT108.f r1.2) : List V).length = 3, ((eT108.f r1.2) : List V).length = 3 ∨ ([C.own (.im (vS (eI .u8) c0.f0)), C.own (vI .i64 c0.f1), C.own (vI .u64 c0.f2)] : List C).length ≤ 0 + 3, ([C.own (.im (vS (eI .u8) c0.f0)), C.own (vI .i64 c0.f1), C.own (vI .u64 c0.f2)] : List C).take 0 ++ ((eT108.f r1.2) : List V).map C.own ++ ([C.own (.im (vS (eI .u8) c0.f0)), C.own (vI .i64 c0.f1), C.own (vI .u64 c0.f2)] : List C).drop (0 + 3) = [C.own (.im (vS (eI .u8) r1.2.f0)), C.own (vI .i64 r1.2.f1), C.own (vI .u64 r1.2.f2)], CallOK Try.prog 87 [.io (.bx [(.im (vS (eI .u8) r1.2.f0)), (vI .i64 r1.2.f1), (vI .u64 r1.2.f2)]), .ro (vI .i64 20)] [(.bx (eT108.f r3.2))] (vB r3.1), ((eT108.f r3.2) : List V).length = 3, ((eT108.f r3.2) : List V).length = 3 ∨ ([C.own (.im (vS (eI .u8) r1.2.f0)), C.own (vI .i64 r1.2.f1), C.own (vI .u64 r1.2.f2)] : List C).length ≤ 0 + 3, ([C.own (.im (vS (eI .u8) r1.2.f0)), C.own (vI .i64 r1.2.f1), C.own (vI .u64 r1.2.f2)] : List C).take 0 ++ ((eT108.f r3.2) : List V).map C.own ++ ([C.own (.im (vS (eI .u8) r1.2.f0)), C.own (vI .i64 r1.2.f1), C.own (vI .u64 r1.2.f2)] : List C).drop (0 + 3) = [C.own (.im (vS (eI .u8) r3.2.f0)), C.own (vI .i64 r3.2.f1), C.own (vI .u64 r3.2.f2)], C.v (vB r3.1) = C.v (vB true), CallOK Try.prog 148 [.io (.bx [(.im (vS (eI .u8) r3.2.f0)), (vI .i64 r3.2.f1), (vI .u64 r3.2.f2)]), .own (.sl 1 2 (cs eT ([⟨#[101]⟩, ⟨#[100, 100, 100, 100, 100, 100, 100, 100, 100, 100, 100, 100, 100, 100, 100, 100, 100, 100, 100, 100, 100, 100, 100, 100, 100, 100, 100, 100, 100, 100, 100, 100, 100, 100, 100, 100, 100, 100, 100, 100]⟩] : List ByteArray)))] [(.bx (eT108.f r6.2))] (vT r6.1), (own (cs eT ([⟨#[101]⟩, ⟨#[100, 100, 100, 100, 100, 100, 100, 100, 100, 100, 100, 100, 100, 100, 100, 100, 100, 100, 100, 100, 100, 100, 100, 100, 100, 100, 100, 100, 100, 100, 100, 100, 100, 100, 100, 100, 100, 100, 100, 100]⟩] : List ByteArray))) = (cs eT ([⟨#[101]⟩, ⟨#[100, 100, 100, 100, 100, 100, 100, 100, 100, 100, 100, 100, 100, 100, 100, 100, 100, 100, 100, 100, 100, 100, 100, 100, 100, 100, 100, 100, 100, 100, 100, 100, 100, 100, 100, 100, 100, 100, 100, 100]⟩] : List ByteArray)).map C.own, 0 + 2 * 1 ≤ (cs eT ([⟨#[101]⟩, ⟨#[100, 100, 100, 100, 100, 100, 100, 100, 100, 100, 100, 100, 100, 100, 100, 100, 100, 100, 100, 100, 100, 100, 100, 100, 100, 100, 100, 100, 100, 100, 100, 100, 100, 100, 100, 100, 100, 100, 100, 100]⟩] : List ByteArray)).length, ((cs eT ([⟨#[101]⟩, ⟨#[100, 100, 100, 100, 100, 100, 100, 100, 100, 100, 100, 100, 100, 100, 100, 100, 100, 100, 100, 100, 100, 100, 100, 100, 100, 100, 100, 100, 100, 100, 100, 100, 100, 100, 100, 100, 100, 100, 100, 100]⟩] : List ByteArray)).drop (0)).take (2 * 1) = (cs eT ([⟨#[101]⟩, ⟨#[100, 100, 100, 100, 100, 100, 100, 100, 100, 100, 100, 100, 100, 100, 100, 100, 100, 100, 100, 100, 100, 100, 100, 100, 100, 100, 100, 100, 100, 100, 100, 100, 100, 100, 100, 100, 100, 100, 100, 100]⟩] : List ByteArray)), ((eT108.f r6.2) : List V).length = 3, ((eT108.f r6.2) : List V).length = 3 ∨ ([C.own (.im (vS (eI .u8) r3.2.f0)), C.own (vI .i64 r3.2.f1), C.own (vI .u64 r3.2.f2)] : List C).length ≤ 0 + 3, ([C.own (.im (vS (eI .u8) r3.2.f0)), C.own (vI .i64 r3.2.f1), C.own (vI .u64 r3.2.f2)] : List C).take 0 ++ ((eT108.f r6.2) : List V).map C.own ++ ([C.own (.im (vS (eI .u8) r3.2.f0)), C.own (vI .i64 r3.2.f1), C.own (vI .u64 r3.2.f2)] : List C).drop (0 + 3) = [C.own (.im (vS (eI .u8) r6.2.f0)), C.own (vI .i64 r6.2.f1), C.own (vI .u64 r6.2.f2)], r1.1.size + r6.1.size ≤ 9223372036854775807, ((.bx [(.im (vS (eI .u8) r6.2.f0)), (vI .i64 r6.2.f1), (vI .u64 r6.2.f2)]) : V) = (.bx (eT108.f r6.2)), Value.string (r1.1 ++ r6.1) = Value.string (r1.1 ++ r6.1)])
      (by kernel_rfl) ⟨F147.fn_c fuel c0 12 _ h2, rfl, .inl rfl, rfl, F87.fn_c fuel r1.2 20 _ h4, rfl, .inl rfl, rfl, vbB h5, F148.fn_c fuel r3.2 ([⟨#[101]⟩, ⟨#[100, 100, 100, 100, 100, 100, 100, 100, 100, 100, 100, 100, 100, 100, 100, 100, 100, 100, 100, 100, 100, 100, 100, 100, 100, 100, 100, 100, 100, 100, 100, 100, 100, 100, 100, 100, 100, 100, 100, 100]⟩] : List ByteArray) _ h7, rfl, len_all (e := eT) (rfl), take_cs (e := eT) (rfl), rfl, .inl rfl, rfl, (chk_S h8), rfl, rfl, trivial⟩ rfl (fun _ _ h => h)
  · 
    obtain rfl := Option.some.inj h
    exact runRet_S (r := ⟨Try.f85.results.toList, _, _, _, [], 9⟩) (n := 100000) (c := (.code (bod Try.f85))) (K := [])
      (hs := [.call ⟨[(.io none), .ro], 9, [], true, [(.bx (eT108.f r1.2))], (vT r1.1), [[C.own (.im (vS (eI .u8) r1.2.f0)), C.own (vI .i64 r1.2.f1), C.own (vI .u64 r1.2.f2)]], 1⟩, .call ⟨[(.io none), .ro], 9, [], true, [(.bx (eT108.f r3.2))], (vB r3.1), [[C.own (.im (vS (eI .u8) r3.2.f0)), C.own (vI .i64 r3.2.f1), C.own (vI .u64 r3.2.f2)]], 1⟩, .g (.env 7 (C.v (vB false)))])
      (ps := [CallOK Try.prog 147 [.io (.bx [(.im (vS (eI .u8) c0.f0)), (vI .i64 c0.f1), (vI .u64 c0.f2)]), .ro (vI .i64 12)] [(.bx (eT108.f r1.2))] (vT r1.1), ((eT108.f r1.2) : List V).length = 3, ((eT108.f r1.2) : List V).length = 3 ∨ ([C.own (.im (vS (eI .u8) c0.f0)), C.own (vI .i64 c0.f1), C.own (vI .u64 c0.f2)] : List C).length ≤ 0 + 3, ([C.own (.im (vS (eI .u8) c0.f0)), C.own (vI .i64 c0.f1), C.own (vI .u64 c0.f2)] : List C).take 0 ++ ((eT108.f r1.2) : List V).map C.own ++ ([C.own (.im (vS (eI .u8) c0.f0)), C.own (vI .i64 c0.f1), C.own (vI .u64 c0.f2)] : List C).drop (0 + 3) = [C.own (.im (vS (eI .u8) r1.2.f0)), C.own (vI .i64 r1.2.f1), C.own (vI .u64 r1.2.f2)], CallOK Try.prog 87 [.io (.bx [(.im (vS (eI .u8) r1.2.f0)), (vI .i64 r1.2.f1), (vI .u64 r1.2.f2)]), .ro (vI .i64 20)] [(.bx (eT108.f r3.2))] (vB r3.1), ((eT108.f r3.2) : List V).length = 3, ((eT108.f r3.2) : List V).length = 3 ∨ ([C.own (.im (vS (eI .u8) r1.2.f0)), C.own (vI .i64 r1.2.f1), C.own (vI .u64 r1.2.f2)] : List C).length ≤ 0 + 3, ([C.own (.im (vS (eI .u8) r1.2.f0)), C.own (vI .i64 r1.2.f1), C.own (vI .u64 r1.2.f2)] : List C).take 0 ++ ((eT108.f r3.2) : List V).map C.own ++ ([C.own (.im (vS (eI .u8) r1.2.f0)), C.own (vI .i64 r1.2.f1), C.own (vI .u64 r1.2.f2)] : List C).drop (0 + 3) = [C.own (.im (vS (eI .u8) r3.2.f0)), C.own (vI .i64 r3.2.f1), C.own (vI .u64 r3.2.f2)], C.v (vB r3.1) = C.v (vB false), ((.bx [(.im (vS (eI .u8) r3.2.f0)), (vI .i64 r3.2.f1), (vI .u64 r3.2.f2)]) : V) = (.bx (eT108.f r3.2)), Value.string r1.1 = Value.string r1.1])
      (by kernel_rfl) ⟨F147.fn_c fuel c0 12 _ h2, rfl, .inl rfl, rfl, F87.fn_c fuel r1.2 20 _ h4, rfl, .inl rfl, rfl, vbB h5, rfl, rfl, trivial⟩ rfl (fun _ _ h => h)
end F85
namespace F74
/-! spec.DrawOnceBy -/
def fn (fuel : Nat) (code0 : List Int) : Option ((List T174) × ByteArray) :=
  (F84.fn fuel (⟨code0, 0, 0⟩ : T108)).bind fun r1 =>
  (F85.fn fuel r1.2).bind fun r3 =>
  some (r1.1, r3.1)
theorem ent : enterable Try.prog 74 = true := by kernel_rfl
theorem fn_c (fuel : Nat) (code0 : List Int) (r : (List T174) × ByteArray) (h : fn fuel code0 = some r) : CallOK Try.prog 74 [.ro (vS (eI .u8) code0)] [] (.tp [(vS eT174 r.1), (vT r.2)]) := by
  refine contract_run Try.func74 (b := bod Try.f74) rfl ent ?_
  unfold fn at h
  obtain ⟨r1, h2, h⟩ := bind_cases h
  obtain ⟨r3, h4, h⟩ := bind_cases h
  obtain rfl := Option.some.inj h
  exact runRet_S (r := ⟨Try.f74.results.toList, _, _, _, [(1, (cs eT174 r1.1), (cs eT174 r1.1))], 9⟩) (n := 100000) (c := (.code (bod Try.f74))) (K := [])
    (hs := [.h (.new 0), .call ⟨[(.io none)], 9, [], true, [(.bx (eT108.f r1.2))], (vS eT174 r1.1), [[C.own (.im (vS (eI .u8) r1.2.f0)), C.own (vI .i64 r1.2.f1), C.own (vI .u64 r1.2.f2)]], 1⟩, .call ⟨[(.io none)], 9, [], true, [(.bx (eT108.f r3.2))], (vT r3.1), [[C.own (.im (vS (eI .u8) r3.2.f0)), C.own (vI .i64 r3.2.f1), C.own (vI .u64 r3.2.f2)]], 2⟩])
    (ps := [CallOK Try.prog 84 [.io (.bx [(.im (vS (eI .u8) code0)), (vI .i64 0), (vI .u64 0)])] [(.bx (eT108.f r1.2))] (vS eT174 r1.1), ((eT108.f r1.2) : List V).length = 3, ((eT108.f r1.2) : List V).length = 3 ∨ ([C.v (vS (eI .u8) code0), C.own (vI .i64 0), C.own (vI .u64 0)] : List C).length ≤ 0 + 3, ([C.v (vS (eI .u8) code0), C.own (vI .i64 0), C.own (vI .u64 0)] : List C).take 0 ++ ((eT108.f r1.2) : List V).map C.own ++ ([C.v (vS (eI .u8) code0), C.own (vI .i64 0), C.own (vI .u64 0)] : List C).drop (0 + 3) = [C.own (.im (vS (eI .u8) r1.2.f0)), C.own (vI .i64 r1.2.f1), C.own (vI .u64 r1.2.f2)], CallOK Try.prog 85 [.io (.bx [(.im (vS (eI .u8) r1.2.f0)), (vI .i64 r1.2.f1), (vI .u64 r1.2.f2)])] [(.bx (eT108.f r3.2))] (vT r3.1), ((eT108.f r3.2) : List V).length = 3, ((eT108.f r3.2) : List V).length = 3 ∨ ([C.own (.im (vS (eI .u8) r1.2.f0)), C.own (vI .i64 r1.2.f1), C.own (vI .u64 r1.2.f2)] : List C).length ≤ 0 + 3, ([C.own (.im (vS (eI .u8) r1.2.f0)), C.own (vI .i64 r1.2.f1), C.own (vI .u64 r1.2.f2)] : List C).take 0 ++ ((eT108.f r3.2) : List V).map C.own ++ ([C.own (.im (vS (eI .u8) r1.2.f0)), C.own (vI .i64 r1.2.f1), C.own (vI .u64 r1.2.f2)] : List C).drop (0 + 3) = [C.own (.im (vS (eI .u8) r3.2.f0)), C.own (vI .i64 r3.2.f1), C.own (vI .u64 r3.2.f2)], (own (cs eT174 r1.1)) = (cs eT174 r1.1).map C.own, 0 + r1.1.length * 2 ≤ (cs eT174 r1.1).length, ((cs eT174 r1.1).drop (0)).take (r1.1.length * 2) = (cs eT174 r1.1), (V.tp [(.sl 2 r1.1.length (cs eT174 r1.1)), (vT r3.1)]) = V.tp [(vS eT174 r1.1), (vT r3.1)]])
    (by kernel_rfl) ⟨F84.fn_c fuel (⟨code0, 0, 0⟩ : T108) _ h2, rfl, .inl rfl, rfl, F85.fn_c fuel r1.2 _ h4, rfl, .inl rfl, rfl, rfl, len_all (e := eT174) (rfl), take_cs (e := eT174) (rfl), rfl, trivial⟩ rfl (fun _ _ h => h)
end F74
namespace F14
/-! spec.DrawNormalOf -/
def fn (fuel : Nat) (code0 : List Int) : Option ((List T174) × ByteArray) :=
  (F74.fn fuel code0).bind fun r1 =>
  some (r1.1, r1.2)
theorem ent : enterable Try.prog 14 = true := by kernel_rfl
theorem fn_c (fuel : Nat) (code0 : List Int) (r : (List T174) × ByteArray) (h : fn fuel code0 = some r) : CallOK Try.prog 14 [.ro (vS (eI .u8) code0)] [] (.tp [(vS eT174 r.1), (vT r.2)]) := by
  refine contract_run Try.func14 (b := bod Try.f14) rfl ent ?_
  unfold fn at h
  obtain ⟨r1, h2, h⟩ := bind_cases h
  obtain rfl := Option.some.inj h
  exact runRet_S (r := ⟨Try.f14.results.toList, _, _, _, [(0, (cs eT174 r1.1), (cs eT174 r1.1))], 9⟩) (n := 100000) (c := (.code (bod Try.f14))) (K := [])
    (hs := [.call ⟨[.ro], 9, [], true, [], (.tp [(vS eT174 r1.1), (vT r1.2)]), [], 0⟩])
    (ps := [CallOK Try.prog 74 [.ro (vS (eI .u8) code0)] [] (.tp [(vS eT174 r1.1), (vT r1.2)]), (own (cs eT174 r1.1)) = (cs eT174 r1.1).map C.own, 0 + r1.1.length * 2 ≤ (cs eT174 r1.1).length, ((cs eT174 r1.1).drop (0)).take (r1.1.length * 2) = (cs eT174 r1.1), (V.tp [(.sl 2 r1.1.length (cs eT174 r1.1)), (vT r1.2)]) = V.tp [(vS eT174 r1.1), (vT r1.2)]])
    (by kernel_rfl) ⟨F74.fn_c fuel code0 _ h2, rfl, len_all (e := eT174) (rfl), take_cs (e := eT174) (rfl), rfl, trivial⟩ rfl (fun _ _ h => h)
end F14
namespace F22
/-! impl.ShortLess -/
def fn (fuel : Nat) (a0 : ByteArray) (b1 : ByteArray) : Option Bool :=
  cond (!decide ((a0.size : Int) = (b1.size : Int)))
  (some (decide ((a0.size : Int) < (b1.size : Int))))
  (some (sLt a0 b1))
theorem ent : enterable Try.prog 22 = true := by kernel_rfl
theorem fn_c (fuel : Nat) (a0 : ByteArray) (b1 : ByteArray) (r : Bool) (h : fn fuel a0 b1 = some r) : CallOK Try.prog 22 [.ro (vT a0), .ro (vT b1)] [] (vB r) := by
  refine contract_run Try.func22 (b := bod Try.f22) rfl ent ?_
  unfold fn at h
  rcases cond_cases h with ⟨h1, h⟩ | ⟨h1, h⟩
  · 
    obtain rfl := Option.some.inj h
    exact runRet_S (r := ⟨Try.f22.results.toList, _, _, _, [], 9⟩) (n := 100000) (c := (.code (bod Try.f22))) (K := [])
      (hs := [.h .sa, .h .sa, hA, .g (.env 9 (C.v (vB true))), .h .sa, .h .sa, hA])
      (ps := [C.v (vB (!decide ((a0.size : Int) = (b1.size : Int)))) = C.v (vB true), (decide ((a0.size : Int) < (b1.size : Int)) : Bool) = (decide ((a0.size : Int) < (b1.size : Int)))])
      (by kernel_rfl) ⟨vbB h1, rfl, trivial⟩ rfl (fun _ _ h => h)
  · 
    obtain rfl := Option.some.inj h
    exact runRet_S (r := ⟨Try.f22.results.toList, _, _, _, [], 9⟩) (n := 100000) (c := (.code (bod Try.f22))) (K := [])
      (hs := [.h .sa, .h .sa, hA, .g (.env 9 (C.v (vB false))), hA])
      (ps := [C.v (vB (!decide ((a0.size : Int) = (b1.size : Int)))) = C.v (vB false), (sLt a0 b1 : Bool) = (sLt a0 b1)])
      (by kernel_rfl) ⟨vbB h1, rfl, trivial⟩ rfl (fun _ _ h => h)
end F22
namespace F138
/-! impl.lettersOK -/
noncomputable def K0 := (subC [1, 0, 1, 0] (bod Try.f138) []).2
noncomputable def L0 := (subC [1, 0, 1, 0, 0] (bod Try.f138) []).1
def I0 (s1 : ByteArray) (most2 : Int) (v3 : Int) (v4 : Int) : TL := ⟨26, [C.dead, C.dead], [(0, C.v (vT s1)), (1, C.v (vI .i64 most2)), (7, C.v (vI .i64 v3)), (8, C.v (vI .i64 v4))], [], []⟩
def J0_0 (s1 : ByteArray) (most2 : Int) (v3 : Int) (o : Unit) : TL := ⟨26, [C.dead, C.dead], [(4, C.v (vB false))], [], []⟩
def J0_1 (s1 : ByteArray) (most2 : Int) (v3 : Int) (o : Unit) : TL := ⟨26, [C.dead, C.dead], [(0, C.v (vT s1)), (1, C.v (vI .i64 most2))], [], []⟩
def Q0 (s1 : ByteArray) (most2 : Int) (v3 : Int) (r : Unit ⊕ Unit) (e : Exit) (st : St) : Prop := (Sum.elim (fun o => e = .ret ∧ Le st (J0_0 s1 most2 v3 o).sl.st) (fun o => e = (.exit 0) ∧ Le st (J0_1 s1 most2 v3 o).sl.st)) r
def p0 (fuel : Nat) (s1 : ByteArray) (most2 : Int) (v3 : Int) : Nat → Int → Option (Unit ⊕ Unit)
  | 0, _ => none
  | n + 1, v4 =>
    cond (decide (v4 < v3))
    ((idx v4 s1.size).bind fun j6 =>
      cond (decide (bt s1 j6 < 97))
      (some (.inl ()))
      (cond (decide (bt s1 j6 > 100))
        (some (.inl ()))
        (p0 fuel s1 most2 v3 n (w64 (v4 + 1)))))
    (some (.inr ()))
theorem p0_c (fuel : Nat) (s1 : ByteArray) (most2 : Int) (v3 : Int) (n : Nat) (v4 : Int) (r : Unit ⊕ Unit) (h : p0 fuel s1 most2 v3 n v4 = some r) : TW Try.prog (.loop L0) (I0 s1 most2 v3 v4).sl.st (Q0 s1 most2 v3 r) := by
  refine loop_run (σ := Int) (fun x => I0 s1 most2 v3 x) (fun n x => p0 fuel s1 most2 v3 n x) (Q0 s1 most2 v3) ?_ (fun _ => rfl) (x := v4) h
  clear h
  rintro n v4 r h
  replace h : p0 fuel s1 most2 v3 (n + 1) v4 = some r := h
  rw [p0] at h
  rcases cond_cases h with ⟨h5, h⟩ | ⟨h5, h⟩
  · 
    obtain ⟨j6, h7, h⟩ := bind_cases h
    rcases cond_cases h with ⟨h8, h⟩ | ⟨h8, h⟩
    · 
      obtain rfl := Option.some.inj h
      exact runAt_S (Q := Round _ (n + 1) _) (n := 100000) (c := (.code L0)) (K := []) (s := (I0 s1 most2 v3 v4).sl) (e := .ret) (t := J0_0 s1 most2 v3 ()) (l := [])
        (hs := [hA, .g (.env 9 (C.v (vB true))), .h (.si j6), hA, .skip, .g (.env 15 (C.v (vB true)))])
        (ps := [C.v (vB (decide (v4 < v3))) = C.v (vB true), v4 = (j6 : Int), j6 < s1.size, C.v (vB (decide (bt s1 j6 < 97))) = C.v (vB true), (false : Bool) = false])
        (by kernel_rfl) ⟨vbB h5, (idx_S h7).1, (idx_S h7).2, vbB h8, rfl, trivial⟩ (fun st hl => ⟨rfl, hl⟩)
    · 
      rcases cond_cases h with ⟨h9, h⟩ | ⟨h9, h⟩
      · 
        obtain rfl := Option.some.inj h
        exact runAt_S (Q := Round _ (n + 1) _) (n := 100000) (c := (.code L0)) (K := []) (s := (I0 s1 most2 v3 v4).sl) (e := .ret) (t := J0_0 s1 most2 v3 ()) (l := [])
          (hs := [hA, .g (.env 9 (C.v (vB true))), .h (.si j6), hA, .skip, .g (.env 15 (C.v (vB false))), .h (.si j6), hA, .skip, .g (.env 20 (C.v (vB true)))])
          (ps := [C.v (vB (decide (v4 < v3))) = C.v (vB true), v4 = (j6 : Int), j6 < s1.size, C.v (vB (decide (bt s1 j6 < 97))) = C.v (vB false), v4 = (j6 : Int), j6 < s1.size, C.v (vB (decide (bt s1 j6 > 100))) = C.v (vB true), (false : Bool) = false])
          (by kernel_rfl) ⟨vbB h5, (idx_S h7).1, (idx_S h7).2, vbB h8, (idx_S h7).1, (idx_S h7).2, vbB h9, rfl, trivial⟩ (fun st hl => ⟨rfl, hl⟩)
      · 
        exact runAt_S (Q := Round _ (n + 1) _) (n := 100000) (c := (.code L0)) (K := []) (s := (I0 s1 most2 v3 v4).sl) (e := .normal) (t := I0 s1 most2 v3 (w64 (v4 + 1))) (l := [])
          (hs := [hA, .g (.env 9 (C.v (vB true))), .h (.si j6), hA, .skip, .g (.env 15 (C.v (vB false))), .h (.si j6), hA, .skip, .g (.env 20 (C.v (vB false))), hA])
          (ps := [C.v (vB (decide (v4 < v3))) = C.v (vB true), v4 = (j6 : Int), j6 < s1.size, C.v (vB (decide (bt s1 j6 < 97))) = C.v (vB false), v4 = (j6 : Int), j6 < s1.size, C.v (vB (decide (bt s1 j6 > 100))) = C.v (vB false), Value.string s1 = Value.string s1, (most2 : Int) = most2, (v3 : Int) = v3, (w64 (v4 + 1) : Int) = (w64 (v4 + 1))])
          (by kernel_rfl) ⟨vbB h5, (idx_S h7).1, (idx_S h7).2, vbB h8, (idx_S h7).1, (idx_S h7).2, vbB h9, rfl, rfl, rfl, rfl, trivial⟩ (fun st hl => ⟨n, _, Nat.lt_succ_self n, hl, w64 (v4 + 1), rfl, rfl, h⟩)
  · 
    obtain rfl := Option.some.inj h
    exact runAt_S (Q := Round _ (n + 1) _) (n := 100000) (c := (.code L0)) (K := []) (s := (I0 s1 most2 v3 v4).sl) (e := (.exit 0)) (t := J0_1 s1 most2 v3 ()) (l := [])
      (hs := [hA, .g (.env 9 (C.v (vB false)))])
      (ps := [C.v (vB (decide (v4 < v3))) = C.v (vB false), Value.string s1 = Value.string s1, (most2 : Int) = most2])
      (by kernel_rfl) ⟨vbB h5, rfl, rfl, trivial⟩ (fun st hl => ⟨rfl, hl⟩)
def fn (fuel : Nat) (s0 : ByteArray) (most1 : Int) : Option Bool :=
  (p0 fuel s0 most1 (s0.size : Int) fuel (0 : Int)).bind fun r10 =>
  (Sum.elim (fun y12 => some false)
  (fun y13 => some (decide ((s0.size : Int) ≤ most1)))) r10
theorem ent : enterable Try.prog 138 = true := by kernel_rfl
theorem fn_c (fuel : Nat) (s0 : ByteArray) (most1 : Int) (r : Bool) (h : fn fuel s0 most1 = some r) : CallOK Try.prog 138 [.ro (vT s0), .ro (vI .i64 most1)] [] (vB r) := by
  refine contract_run Try.func138 (b := bod Try.f138) rfl ent ?_
  unfold fn at h
  obtain ⟨r10, h11, h⟩ := bind_cases h
  refine runTo_S (n := 100000) (c := (.code (bod Try.f138))) (K := []) (b := (.code (.loop L0))) (K1 := K0) (t := I0 s0 most1 (s0.size : Int) (0 : Int)) (l := [])
    (hs := [.h .sa])
    (ps := [Value.string s0 = Value.string s0, (most1 : Int) = most1, ((s0.size : Int) : Int) = (s0.size : Int), (0 : Int) = (0 : Int)])
    (by kernel_rfl) ⟨rfl, rfl, rfl, rfl, trivial⟩ (cut_code ?_)
  refine TW.mono_le (p0_c fuel s0 most1 (s0.size : Int) fuel (0 : Int) _ h11) ?_
  rcases r10 with y12 | y13
  · 
    replace h := sum_l h
    rintro e st hq
    obtain ⟨rfl, hl⟩ := hq
    refine ⟨_, hl, ?_⟩
    obtain rfl := Option.some.inj h
    exact runRet_S (r := ⟨Try.f138.results.toList, _, _, _, [], 9⟩) (n := 100000) (c := (.out .ret)) (K := K0) (s := (J0_0 s0 most1 (s0.size : Int) y12).sl)
      (hs := [])
      (ps := [(false : Bool) = false])
      (by kernel_rfl) ⟨rfl, trivial⟩ rfl (fun _ _ h => h)
  · 
    replace h := sum_r h
    rintro e st hq
    obtain ⟨rfl, hl⟩ := hq
    refine ⟨_, hl, ?_⟩
    obtain rfl := Option.some.inj h
    exact runRet_S (r := ⟨Try.f138.results.toList, _, _, _, [], 9⟩) (n := 100000) (c := (.out (.exit 0))) (K := K0) (s := (J0_1 s0 most1 (s0.size : Int) y13).sl)
      (hs := [.h .sa, hA])
      (ps := [(decide ((s0.size : Int) ≤ most1) : Bool) = (decide ((s0.size : Int) ≤ most1))])
      (by kernel_rfl) ⟨rfl, trivial⟩ rfl (fun _ _ h => h)
end F138
namespace F142
/-! impl.GoodRules$1 -/
def fn (fuel : Nat) (r0 : T174) : Option Bool :=
  cond (sEq r0.f0 ByteArray.empty)
  (some true)
  ((F138.fn fuel r0.f0 6).bind fun r2 =>
    cond (!r2)
    (some true)
    ((F138.fn fuel r0.f1 6).bind fun r5 =>
      cond (!r5)
      (some true)
      ((F22.fn fuel r0.f1 r0.f0).bind fun r8 =>
        some (!r8))))
theorem ent : enterable Try.prog 142 = true := by kernel_rfl
theorem fn_c (fuel : Nat) (r0 : T174) (r : Bool) (h : fn fuel r0 = some r) : CallOK Try.prog 142 [.ro (.ag (eT174.f r0))] [] (vB r) := by
  refine contract_run Try.func142 (b := bod Try.f142) rfl ent ?_
  unfold fn at h
  rcases cond_cases h with ⟨h1, h⟩ | ⟨h1, h⟩
  · 
    obtain rfl := Option.some.inj h
    exact runRet_S (r := ⟨Try.f142.results.toList, _, _, _, [], 9⟩) (n := 100000) (c := (.code (bod Try.f142))) (K := [])
      (hs := [.h (.new 0), hA, hA, .skip, .g (.env 6 (C.v (vB true)))])
      (ps := [C.v (vB (sEq r0.f0 ByteArray.empty)) = C.v (vB true), (true : Bool) = true])
      (by kernel_rfl) ⟨vbB h1, rfl, trivial⟩ rfl (fun _ _ h => h)
  · 
    obtain ⟨r2, h3, h⟩ := bind_cases h
    rcases cond_cases h with ⟨h4, h⟩ | ⟨h4, h⟩
    · 
      obtain rfl := Option.some.inj h
      exact runRet_S (r := ⟨Try.f142.results.toList, _, _, _, [], 9⟩) (n := 100000) (c := (.code (bod Try.f142))) (K := [])
        (hs := [.h (.new 0), hA, hA, .skip, .g (.env 6 (C.v (vB false))), hA, .call ⟨[.ro, .ro], 9, [], true, [], (vB r2), [], 1⟩, hA, .skip, .skip, .g (.env 12 (C.v (vB true)))])
        (ps := [C.v (vB (sEq r0.f0 ByteArray.empty)) = C.v (vB false), CallOK Try.prog 138 [.ro (vT r0.f0), .ro (vI .i64 6)] [] (vB r2), C.v (vB (!r2)) = C.v (vB true), (true : Bool) = true])
        (by kernel_rfl) ⟨vbB h1, F138.fn_c fuel r0.f0 6 _ h3, vbB h4, rfl, trivial⟩ rfl (fun _ _ h => h)
    · 
      obtain ⟨r5, h6, h⟩ := bind_cases h
      rcases cond_cases h with ⟨h7, h⟩ | ⟨h7, h⟩
      · 
        obtain rfl := Option.some.inj h
        exact runRet_S (r := ⟨Try.f142.results.toList, _, _, _, [], 9⟩) (n := 100000) (c := (.code (bod Try.f142))) (K := [])
          (hs := [.h (.new 0), hA, hA, .skip, .g (.env 6 (C.v (vB false))), hA, .call ⟨[.ro, .ro], 9, [], true, [], (vB r2), [], 1⟩, hA, .skip, .skip, .g (.env 12 (C.v (vB false))), hA, .call ⟨[.ro, .ro], 9, [], true, [], (vB r5), [], 1⟩, hA, .skip, .skip, .g (.env 18 (C.v (vB true)))])
          (ps := [C.v (vB (sEq r0.f0 ByteArray.empty)) = C.v (vB false), CallOK Try.prog 138 [.ro (vT r0.f0), .ro (vI .i64 6)] [] (vB r2), C.v (vB (!r2)) = C.v (vB false), CallOK Try.prog 138 [.ro (vT r0.f1), .ro (vI .i64 6)] [] (vB r5), C.v (vB (!r5)) = C.v (vB true), (true : Bool) = true])
          (by kernel_rfl) ⟨vbB h1, F138.fn_c fuel r0.f0 6 _ h3, vbB h4, F138.fn_c fuel r0.f1 6 _ h6, vbB h7, rfl, trivial⟩ rfl (fun _ _ h => h)
      · 
        obtain ⟨r8, h9, h⟩ := bind_cases h
        obtain rfl := Option.some.inj h
        exact runRet_S (r := ⟨Try.f142.results.toList, _, _, _, [], 9⟩) (n := 100000) (c := (.code (bod Try.f142))) (K := [])
          (hs := [.h (.new 0), hA, hA, .skip, .g (.env 6 (C.v (vB false))), hA, .call ⟨[.ro, .ro], 9, [], true, [], (vB r2), [], 1⟩, hA, .skip, .skip, .g (.env 12 (C.v (vB false))), hA, .call ⟨[.ro, .ro], 9, [], true, [], (vB r5), [], 1⟩, hA, .skip, .skip, .g (.env 18 (C.v (vB false))), hA, hA, .call ⟨[.ro, .ro], 9, [], true, [], (vB r8), [], 1⟩, hA])
          (ps := [C.v (vB (sEq r0.f0 ByteArray.empty)) = C.v (vB false), CallOK Try.prog 138 [.ro (vT r0.f0), .ro (vI .i64 6)] [] (vB r2), C.v (vB (!r2)) = C.v (vB false), CallOK Try.prog 138 [.ro (vT r0.f1), .ro (vI .i64 6)] [] (vB r5), C.v (vB (!r5)) = C.v (vB false), CallOK Try.prog 22 [.ro (vT r0.f1), .ro (vT r0.f0)] [] (vB r8), (!r8 : Bool) = (!r8)])
          (by kernel_rfl) ⟨vbB h1, F138.fn_c fuel r0.f0 6 _ h3, vbB h4, F138.fn_c fuel r0.f1 6 _ h6, vbB h7, F22.fn_c fuel r0.f1 r0.f0 _ h9, rfl, trivial⟩ rfl (fun _ _ h => h)
end F142
namespace F209_142
/-! slices.IndexFunc[[]impl.Rule,impl.Rule] -/
noncomputable def K0 := (subC [1, 0, 1, 0] (bod Try.f209) []).2
noncomputable def L0 := (subC [1, 0, 1, 0, 0] (bod Try.f209) []).1
def I0 (s1 : List T174) (v2 : Int) (v3 : Int) : TL := ⟨19, [C.dead, C.fn 142 []], [(0, C.v (vS eT174 s1)), (1, C.fn 142 []), (7, C.v (vI .i64 v2)), (8, C.v (vI .i64 v3))], [], []⟩
def J0_0 (s1 : List T174) (v2 : Int) (o : Int) : TL := ⟨19, [C.dead, C.fn 142 []], [(4, C.v (vI .i64 o))], [], []⟩
def J0_1 (s1 : List T174) (v2 : Int) (o : Unit) : TL := ⟨19, [C.dead, C.fn 142 []], [], [], []⟩
def Q0 (s1 : List T174) (v2 : Int) (r : Int ⊕ Unit) (e : Exit) (st : St) : Prop := (Sum.elim (fun o => e = .ret ∧ Le st (J0_0 s1 v2 o).sl.st) (fun o => e = (.exit 0) ∧ Le st (J0_1 s1 v2 o).sl.st)) r
def p0 (fuel : Nat) (s1 : List T174) (v2 : Int) : Nat → Int → Option (Int ⊕ Unit)
  | 0, _ => none
  | n + 1, v3 =>
    cond (decide (v3 < v2))
    ((idx v3 s1.length).bind fun j5 =>
      (F142.fn fuel (s1.getD j5 (default : T174))).bind fun r7 =>
      cond (r7)
      (some (.inl v3))
      (p0 fuel s1 v2 n (w64 (v3 + 1))))
    (some (.inr ()))
theorem p0_c (fuel : Nat) (s1 : List T174) (v2 : Int) (n : Nat) (v3 : Int) (r : Int ⊕ Unit) (h : p0 fuel s1 v2 n v3 = some r) : TW Try.prog (.loop L0) (I0 s1 v2 v3).sl.st (Q0 s1 v2 r) := by
  refine loop_run (σ := Int) (fun x => I0 s1 v2 x) (fun n x => p0 fuel s1 v2 n x) (Q0 s1 v2) ?_ (fun _ => rfl) (x := v3) h
  clear h
  rintro n v3 r h
  replace h : p0 fuel s1 v2 (n + 1) v3 = some r := h
  rw [p0] at h
  rcases cond_cases h with ⟨h4, h⟩ | ⟨h4, h⟩
  · 
    obtain ⟨j5, h6, h⟩ := bind_cases h
    obtain ⟨r7, h8, h⟩ := bind_cases h
    rcases cond_cases h with ⟨h9, h⟩ | ⟨h9, h⟩
    · 
      obtain rfl := Option.some.inj h
      exact runAt_S (Q := Round _ (n + 1) _) (n := 100000) (c := (.code L0)) (K := []) (s := (I0 s1 v2 v3).sl) (e := .ret) (t := J0_0 s1 v2 v3) (l := [])
        (hs := [hA, .g (.env 9 (C.v (vB true))), .h (.idv j5 (eT174.f (s1.getD j5 (default : T174)) ++ (cs eT174 (s1.drop (j5 + 1))))), hA, .call ⟨[.ro], 9, [], true, [], (vB r7), [], 0⟩, .g (.env 16 (C.v (vB true)))])
        (ps := [C.v (vB (decide (v3 < v2))) = C.v (vB true), v3 = (j5 : Int), j5 < s1.length, (cs eT174 s1).drop (j5 * 2) = (eT174.f (s1.getD j5 (default : T174)) ++ (cs eT174 (s1.drop (j5 + 1)))), cs eT174 s1 ≠ [], CallOK Try.prog 142 [.ro (.ag [(vT ((s1.getD j5 (default : T174)).f0)), (vT ((s1.getD j5 (default : T174)).f1))])] [] (vB r7), C.v (vB r7) = C.v (vB true), (v3 : Int) = v3])
        (by kernel_rfl) ⟨vbB h4, (idx_S h6).1, (idx_S h6).2, cs_from (e := eT174) (d := (default : T174)) (idx_S h6).2, cs_ne (e := eT174) (idx_S h6).2 (by decide), F142.fn_c fuel (s1.getD j5 (default : T174)) _ h8, vbB h9, rfl, trivial⟩ (fun st hl => ⟨rfl, hl⟩)
    · 
      exact runAt_S (Q := Round _ (n + 1) _) (n := 100000) (c := (.code L0)) (K := []) (s := (I0 s1 v2 v3).sl) (e := .normal) (t := I0 s1 v2 (w64 (v3 + 1))) (l := [])
        (hs := [hA, .g (.env 9 (C.v (vB true))), .h (.idv j5 (eT174.f (s1.getD j5 (default : T174)) ++ (cs eT174 (s1.drop (j5 + 1))))), hA, .call ⟨[.ro], 9, [], true, [], (vB r7), [], 0⟩, .g (.env 16 (C.v (vB false))), hA])
        (ps := [C.v (vB (decide (v3 < v2))) = C.v (vB true), v3 = (j5 : Int), j5 < s1.length, (cs eT174 s1).drop (j5 * 2) = (eT174.f (s1.getD j5 (default : T174)) ++ (cs eT174 (s1.drop (j5 + 1)))), cs eT174 s1 ≠ [], CallOK Try.prog 142 [.ro (.ag [(vT ((s1.getD j5 (default : T174)).f0)), (vT ((s1.getD j5 (default : T174)).f1))])] [] (vB r7), C.v (vB r7) = C.v (vB false), ((vS eT174 s1) : V) = (vS eT174 s1), (v2 : Int) = v2, (w64 (v3 + 1) : Int) = (w64 (v3 + 1))])
        (by kernel_rfl) ⟨vbB h4, (idx_S h6).1, (idx_S h6).2, cs_from (e := eT174) (d := (default : T174)) (idx_S h6).2, cs_ne (e := eT174) (idx_S h6).2 (by decide), F142.fn_c fuel (s1.getD j5 (default : T174)) _ h8, vbB h9, rfl, rfl, rfl, trivial⟩ (fun st hl => ⟨n, _, Nat.lt_succ_self n, hl, w64 (v3 + 1), rfl, rfl, h⟩)
  · 
    obtain rfl := Option.some.inj h
    exact runAt_S (Q := Round _ (n + 1) _) (n := 100000) (c := (.code L0)) (K := []) (s := (I0 s1 v2 v3).sl) (e := (.exit 0)) (t := J0_1 s1 v2 ()) (l := [])
      (hs := [hA, .g (.env 9 (C.v (vB false)))])
      (ps := [C.v (vB (decide (v3 < v2))) = C.v (vB false)])
      (by kernel_rfl) ⟨vbB h4, trivial⟩ (fun st hl => ⟨rfl, hl⟩)
def fn (fuel : Nat) (s0 : List T174) : Option Int :=
  (p0 fuel s0 (s0.length : Int) fuel (0 : Int)).bind fun r10 =>
  (Sum.elim (fun y12 => some y12)
  (fun y13 => some (-1))) r10
theorem ent : enterable Try.prog 209 = true := by kernel_rfl
theorem fn_c (fuel : Nat) (s0 : List T174) (r : Int) (h : fn fuel s0 = some r) : CallOK Try.prog 209 [.ro (vS eT174 s0), .io (.fn 142 [])] [(.fn 142 [])] (vI .i64 r) := by
  refine contract_run Try.func209 (b := bod Try.f209) rfl ent ?_
  unfold fn at h
  obtain ⟨r10, h11, h⟩ := bind_cases h
  refine runTo_S (n := 100000) (c := (.code (bod Try.f209))) (K := []) (b := (.code (.loop L0))) (K1 := K0) (t := I0 s0 (s0.length : Int) (0 : Int)) (l := [])
    (hs := [hA])
    (ps := [((vS eT174 s0) : V) = (vS eT174 s0), ((s0.length : Int) : Int) = (s0.length : Int), (0 : Int) = (0 : Int)])
    (by kernel_rfl) ⟨rfl, rfl, rfl, trivial⟩ (cut_code ?_)
  refine TW.mono_le (p0_c fuel s0 (s0.length : Int) fuel (0 : Int) _ h11) ?_
  rcases r10 with y12 | y13
  · 
    replace h := sum_l h
    rintro e st hq
    obtain ⟨rfl, hl⟩ := hq
    refine ⟨_, hl, ?_⟩
    obtain rfl := Option.some.inj h
    exact runRet_S (r := ⟨Try.f209.results.toList, _, _, _, [], 9⟩) (n := 100000) (c := (.out .ret)) (K := K0) (s := (J0_0 s0 (s0.length : Int) y12).sl)
      (hs := [])
      (ps := [(.fn 142 [] : V) = .fn 142 [], (y12 : Int) = y12])
      (by kernel_rfl) ⟨rfl, rfl, trivial⟩ rfl (fun _ _ h => h)
  · 
    replace h := sum_r h
    rintro e st hq
    obtain ⟨rfl, hl⟩ := hq
    refine ⟨_, hl, ?_⟩
    obtain rfl := Option.some.inj h
    exact runRet_S (r := ⟨Try.f209.results.toList, _, _, _, [], 9⟩) (n := 100000) (c := (.out (.exit 0))) (K := K0) (s := (J0_1 s0 (s0.length : Int) y13).sl)
      (hs := [])
      (ps := [(.fn 142 [] : V) = .fn 142 [], ((-1) : Int) = (-1)])
      (by kernel_rfl) ⟨rfl, rfl, trivial⟩ rfl (fun _ _ h => h)
end F209_142
namespace F141_142
/-! slices.ContainsFunc[[]impl.Rule,impl.Rule] -/
def fn (fuel : Nat) (s0 : List T174) : Option Bool :=
  (F209_142.fn fuel s0).bind fun r1 =>
  some (decide (r1 ≥ 0))
theorem ent : enterable Try.prog 141 = true := by kernel_rfl
theorem fn_c (fuel : Nat) (s0 : List T174) (r : Bool) (h : fn fuel s0 = some r) : CallOK Try.prog 141 [.ro (vS eT174 s0), .io (.fn 142 [])] [(.fn 142 [])] (vB r) := by
  refine contract_run Try.func141 (b := bod Try.f141) rfl ent ?_
  unfold fn at h
  obtain ⟨r1, h2, h⟩ := bind_cases h
  obtain rfl := Option.some.inj h
  exact runRet_S (r := ⟨Try.f141.results.toList, _, _, _, [], 9⟩) (n := 100000) (c := (.code (bod Try.f141))) (K := [])
    (hs := [.call ⟨[.ro, (.io none)], 9, [], true, [(.fn 142 [])], (vI .i64 r1), [], 0⟩, hA])
    (ps := [CallOK Try.prog 209 [.ro (vS eT174 s0), .io (.fn 142 [])] [(.fn 142 [])] (vI .i64 r1), (.fn 142 [] : V) = .fn 142 [], (decide (r1 ≥ 0) : Bool) = (decide (r1 ≥ 0))])
    (by kernel_rfl) ⟨F209_142.fn_c fuel s0 _ h2, rfl, rfl, trivial⟩ rfl (fun _ _ h => h)
end F141_142
namespace F80
/-! impl.GoodRules -/
def fn (fuel : Nat) (l0 : List T174) : Option Bool :=
  cond (decide ((l0.length : Int) ≤ 8))
  ((F141_142.fn fuel l0).bind fun r2 =>
    some (!r2))
  (some false)
theorem ent : enterable Try.prog 80 = true := by kernel_rfl
theorem fn_c (fuel : Nat) (l0 : List T174) (r : Bool) (h : fn fuel l0 = some r) : CallOK Try.prog 80 [.ro (vS eT174 l0)] [] (vB r) := by
  refine contract_run Try.func80 (b := bod Try.f80) rfl ent ?_
  unfold fn at h
  rcases cond_cases h with ⟨h1, h⟩ | ⟨h1, h⟩
  · 
    obtain ⟨r2, h3, h⟩ := bind_cases h
    obtain rfl := Option.some.inj h
    exact runRet_S (r := ⟨Try.f80.results.toList, _, _, _, [], 9⟩) (n := 100000) (c := (.code (bod Try.f80))) (K := [])
      (hs := [hA, hA, .skip, .g (.env 6 (C.v (vB true))), .call ⟨[.ro, (.io none)], 9, [], true, [(.fn 142 [])], (vB r2), [], 0⟩, hA])
      (ps := [C.v (vB (decide ((l0.length : Int) ≤ 8))) = C.v (vB true), CallOK Try.prog 141 [.ro (vS eT174 l0), .io (.fn 142 [])] [(.fn 142 [])] (vB r2), (!r2 : Bool) = (!r2)])
      (by kernel_rfl) ⟨vbB h1, F141_142.fn_c fuel l0 _ h3, rfl, trivial⟩ rfl (fun _ _ h => h)
  · 
    obtain rfl := Option.some.inj h
    exact runRet_S (r := ⟨Try.f80.results.toList, _, _, _, [], 9⟩) (n := 100000) (c := (.code (bod Try.f80))) (K := [])
      (hs := [hA, hA, .skip, .g (.env 6 (C.v (vB false)))])
      (ps := [C.v (vB (decide ((l0.length : Int) ≤ 8))) = C.v (vB false), (false : Bool) = false])
      (by kernel_rfl) ⟨vbB h1, rfl, trivial⟩ rfl (fun _ _ h => h)
end F80
namespace F75
/-! impl.askedText -/
def fn (fuel : Nat) (l0 : List T174) (s1 : ByteArray) : Option Bool :=
  (F80.fn fuel l0).bind fun r1 =>
  cond (r1)
  ((F138.fn fuel s1 40).bind fun r4 =>
    some r4)
  (some false)
theorem ent : enterable Try.prog 75 = true := by kernel_rfl
theorem fn_c (fuel : Nat) (l0 : List T174) (s1 : ByteArray) (r : Bool) (h : fn fuel l0 s1 = some r) : CallOK Try.prog 75 [.ro (vS eT174 l0), .ro (vT s1)] [] (vB r) := by
  refine contract_run Try.func75 (b := bod Try.f75) rfl ent ?_
  unfold fn at h
  obtain ⟨r1, h2, h⟩ := bind_cases h
  rcases cond_cases h with ⟨h3, h⟩ | ⟨h3, h⟩
  · 
    obtain ⟨r4, h5, h⟩ := bind_cases h
    obtain rfl := Option.some.inj h
    exact runRet_S (r := ⟨Try.f75.results.toList, _, _, _, [], 9⟩) (n := 100000) (c := (.code (bod Try.f75))) (K := [])
      (hs := [.call ⟨[.ro], 9, [], true, [], (vB r1), [], 0⟩, .skip, .g (.env 7 (C.v (vB true))), .call ⟨[.ro, .ro], 9, [], true, [], (vB r4), [], 0⟩])
      (ps := [CallOK Try.prog 80 [.ro (vS eT174 l0)] [] (vB r1), C.v (vB r1) = C.v (vB true), CallOK Try.prog 138 [.ro (vT s1), .ro (vI .i64 40)] [] (vB r4), (r4 : Bool) = r4])
      (by kernel_rfl) ⟨F80.fn_c fuel l0 _ h2, vbB h3, F138.fn_c fuel s1 40 _ h5, rfl, trivial⟩ rfl (fun _ _ h => h)
  · 
    obtain rfl := Option.some.inj h
    exact runRet_S (r := ⟨Try.f75.results.toList, _, _, _, [], 9⟩) (n := 100000) (c := (.code (bod Try.f75))) (K := [])
      (hs := [.call ⟨[.ro], 9, [], true, [], (vB r1), [], 0⟩, .skip, .g (.env 7 (C.v (vB false)))])
      (ps := [CallOK Try.prog 80 [.ro (vS eT174 l0)] [] (vB r1), C.v (vB r1) = C.v (vB false), (false : Bool) = false])
      (by kernel_rfl) ⟨F80.fn_c fuel l0 _ h2, vbB h3, rfl, trivial⟩ rfl (fun _ _ h => h)
end F75
namespace F255
/-! internal/stringslite.HasPrefix -/
def fn (fuel : Nat) (s0 : ByteArray) (prefix1 : ByteArray) : Option Bool :=
  cond (decide ((s0.size : Int) ≥ (prefix1.size : Int)))
  ((chk (prefix1.size ≤ s0.size)).bind fun _ =>
    some (sEq (s0.extract 0 prefix1.size) prefix1))
  (some false)
theorem ent : enterable Try.prog 255 = true := by kernel_rfl
theorem fn_c (fuel : Nat) (s0 : ByteArray) (prefix1 : ByteArray) (r : Bool) (h : fn fuel s0 prefix1 = some r) : CallOK Try.prog 255 [.ro (vT s0), .ro (vT prefix1)] [] (vB r) := by
  refine contract_run Try.func255 (b := bod Try.f255) rfl ent ?_
  unfold fn at h
  rcases cond_cases h with ⟨h1, h⟩ | ⟨h1, h⟩
  · 
    obtain ⟨_, h2, h⟩ := bind_cases h
    obtain rfl := Option.some.inj h
    exact runRet_S (r := ⟨Try.f255.results.toList, _, _, _, [], 9⟩) (n := 100000) (c := (.code (bod Try.f255))) (K := [])
      (hs := [.h .sa, .h .sa, hA, .skip, .g (.env 10 (C.v (vB true))), .h .sa, .h (.ss 0 prefix1.size), hA])
      (ps := [C.v (vB (decide ((s0.size : Int) ≥ (prefix1.size : Int)))) = C.v (vB true), (0 : Int) = ((0 : Nat) : Int), ((prefix1.size : Int) : Int) = ((prefix1.size : Nat) : Int), 0 ≤ prefix1.size, prefix1.size ≤ s0.size, (sEq (s0.extract 0 prefix1.size) prefix1 : Bool) = (sEq (s0.extract 0 prefix1.size) prefix1)])
      (by kernel_rfl) ⟨vbB h1, rfl, rfl, (Nat.zero_le _), (chk_S h2), rfl, trivial⟩ rfl (fun _ _ h => h)
  · 
    obtain rfl := Option.some.inj h
    exact runRet_S (r := ⟨Try.f255.results.toList, _, _, _, [], 9⟩) (n := 100000) (c := (.code (bod Try.f255))) (K := [])
      (hs := [.h .sa, .h .sa, hA, .skip, .g (.env 10 (C.v (vB false)))])
      (ps := [C.v (vB (decide ((s0.size : Int) ≥ (prefix1.size : Int)))) = C.v (vB false), (false : Bool) = false])
      (by kernel_rfl) ⟨vbB h1, rfl, trivial⟩ rfl (fun _ _ h => h)
end F255
namespace F211
/-! strings.HasPrefix -/
def fn (fuel : Nat) (s0 : ByteArray) (prefix1 : ByteArray) : Option Bool :=
  (F255.fn fuel s0 prefix1).bind fun r1 =>
  some r1
theorem ent : enterable Try.prog 211 = true := by kernel_rfl
theorem fn_c (fuel : Nat) (s0 : ByteArray) (prefix1 : ByteArray) (r : Bool) (h : fn fuel s0 prefix1 = some r) : CallOK Try.prog 211 [.ro (vT s0), .ro (vT prefix1)] [] (vB r) := by
  refine contract_run Try.func211 (b := bod Try.f211) rfl ent ?_
  unfold fn at h
  obtain ⟨r1, h2, h⟩ := bind_cases h
  obtain rfl := Option.some.inj h
  exact runRet_S (r := ⟨Try.f211.results.toList, _, _, _, [], 9⟩) (n := 100000) (c := (.code (bod Try.f211))) (K := [])
    (hs := [.call ⟨[.ro, .ro], 9, [], true, [], (vB r1), [], 0⟩])
    (ps := [CallOK Try.prog 255 [.ro (vT s0), .ro (vT prefix1)] [] (vB r1), (r1 : Bool) = r1])
    (by kernel_rfl) ⟨F255.fn_c fuel s0 prefix1 _ h2, rfl, trivial⟩ rfl (fun _ _ h => h)
end F211
namespace F146
/-! impl.all$1 -/
def fn (fuel : Nat) (t0 : ByteArray) (cap0 : List ByteArray) : Option (Bool × (List ByteArray)) :=
  (chk ((cap0.length + 1) * 16 ≤ 140737488355328)).bind fun _ =>
  some (true, cap0 ++ ([t0] : List ByteArray))
theorem ent : enterable Try.prog 146 = true := by kernel_rfl
theorem fn_c (fuel : Nat) (t0 : ByteArray) (cap0 : List ByteArray) (r : Bool × (List ByteArray)) (h : fn fuel t0 cap0 = some r) : CallOK Try.prog 146 [.ro (vT t0), .io (.bx [(vS eT cap0)])] [(.bx [(vS eT r.2)])] (vB r.1) := by
  refine contract_run Try.func146 (b := bod Try.f146) rfl ent ?_
  unfold fn at h
  obtain ⟨_, h1, h⟩ := bind_cases h
  obtain rfl := Option.some.inj h
  exact runRet_S (r := ⟨Try.f146.results.toList, _, _, _, [(3, (cs eT (cap0 ++ ([t0] : List ByteArray))), (cs eT (cap0 ++ ([t0] : List ByteArray))))], 9⟩) (n := 100000) (c := (.code (bod Try.f146))) (K := [])
    (hs := [.g (.opn 0 0 1), hA, .h (.new 2), .h (.app 3 (own (cs eT (cap0 ++ ([t0] : List ByteArray))))), hA])
    (ps := [0 + cap0.length * 1 ≤ (own (cs eT cap0)).length, (cap0.length + 1) * 16 ≤ 140737488355328, ((own (cs eT cap0)).drop 0).take (cap0.length * 1) ++ [C.own (vT t0)] = (own (cs eT (cap0 ++ ([t0] : List ByteArray)))), (own (cs eT (cap0 ++ ([t0] : List ByteArray)))) = (cs eT (cap0 ++ ([t0] : List ByteArray))).map C.own, 0 + (cap0.length + 1) * 1 ≤ (cs eT (cap0 ++ ([t0] : List ByteArray))).length, ((cs eT (cap0 ++ ([t0] : List ByteArray))).drop (0)).take ((cap0.length + 1) * 1) = (cs eT (cap0 ++ ([t0] : List ByteArray))), (.bx [(.sl 1 (cap0.length + 1) (cs eT (cap0 ++ ([t0] : List ByteArray))))] : V) = .bx [(vS eT (cap0 ++ ([t0] : List ByteArray)))], (true : Bool) = true])
    (by kernel_rfl) ⟨own_len (e := eT) (rfl), (chk_S h1), own_app (e := eT) (rfl) rfl, rfl, len_all (e := eT) (app_ln (rfl) (rfl)), take_cs (e := eT) (app_ln (rfl) (rfl)), (by rw [show cap0.length + 1 = (cap0 ++ ([t0] : List ByteArray)).length from (app_ln (rfl) (rfl))]; try rfl), rfl, trivial⟩ rfl (fun _ _ h => h)
end F146
namespace F145_146
/-! impl.once -/
noncomputable def K0 := (subC [1, 0] (bod Try.f145) []).2
noncomputable def L0 := (subC [1, 0, 0] (bod Try.f145) []).1
noncomputable def K1 := (subC [1, 1, 0, 0, 1, 1, 0] L0 []).2
noncomputable def L1 := (subC [1, 1, 0, 0, 1, 1, 0, 0] L0 []).1
def I1 (v9 : List ByteArray) (s10 : ByteArray) (r11 : ByteArray) (r12 : ByteArray) (i13 : Int) (v14 : List T174) (v15 : Int) (v16 : Int) : TL := ⟨51, [C.dead, C.dead, C.fn 146 [C.pr 0 0]], [(1, C.v (vT s10)), (2, C.fn 146 [C.pr 0 0]), (7, C.pr 2 0), (8, C.v (vI .i64 i13)), (9, C.v (vS eT174 v14)), (10, C.v (vI .i64 v15)), (11, C.v (vI .i64 v16))], [(1, (cs eT v9))], [(0, [C.sr 1 0 1 v9.length]), (2, [C.own (vT r11), C.own (vT r12)])]⟩
def J1_0 (s10 : ByteArray) (r11 : ByteArray) (r12 : ByteArray) (v14 : List T174) (v15 : Int) (v16 : Int) (o : (List ByteArray)) : TL := ⟨51, [C.dead, C.dead, C.fn 146 [C.pr 0 0]], [], [(1, (cs eT o))], [(0, [C.sr 1 0 1 o.length])]⟩
def J1_1 (s10 : ByteArray) (r11 : ByteArray) (r12 : ByteArray) (v14 : List T174) (v15 : Int) (v16 : Int) (o : (List ByteArray)) : TL := ⟨51, [C.dead, C.dead, C.fn 146 [C.pr 0 0]], [(1, C.v (vT s10)), (2, C.fn 146 [C.pr 0 0]), (9, C.v (vS eT174 v14)), (10, C.v (vI .i64 v15)), (11, C.v (vI .i64 v16))], [(1, (cs eT o))], [(0, [C.sr 1 0 1 o.length])]⟩
def Q1 (s10 : ByteArray) (r11 : ByteArray) (r12 : ByteArray) (v14 : List T174) (v15 : Int) (v16 : Int) (r : (List ByteArray) ⊕ (List ByteArray)) (e : Exit) (st : St) : Prop := (Sum.elim (fun o => e = .ret ∧ Le st (J1_0 s10 r11 r12 v14 v15 v16 o).sl.st) (fun o => e = (.exit 2) ∧ Le st (J1_1 s10 r11 r12 v14 v15 v16 o).sl.st)) r
def p1 (fuel : Nat) (s10 : ByteArray) (r11 : ByteArray) (r12 : ByteArray) (v14 : List T174) (v15 : Int) (v16 : Int) : Nat → (List ByteArray) → Int → Option ((List ByteArray) ⊕ (List ByteArray))
  | 0, _, _ => none
  | n + 1, v9, i13 =>
    cond (decide (w64 (i13 + (r11.size : Int)) ≤ (s10.size : Int)))
    ((toN i13).bind fun n18 =>
      (chk (n18 ≤ s10.size)).bind fun _ =>
      (F211.fn fuel (s10.extract n18 s10.size) r11).bind fun r21 =>
      cond (r21)
      ((chk ((s10.extract 0 n18).size + r12.size ≤ 9223372036854775807)).bind fun _ =>
        (toN (w64 (i13 + (r11.size : Int)))).bind fun n25 =>
        (chk (n25 ≤ s10.size)).bind fun _ =>
        (chk (((s10.extract 0 n18) ++ r12).size + (s10.extract n25 s10.size).size ≤ 9223372036854775807)).bind fun _ =>
        (F146.fn fuel (((s10.extract 0 n18) ++ r12) ++ (s10.extract n25 s10.size)) v9).bind fun r29 =>
        cond (!r29.1)
        (some (.inl r29.2))
        (p1 fuel s10 r11 r12 v14 v15 v16 n r29.2 (w64 (i13 + 1))))
      (p1 fuel s10 r11 r12 v14 v15 v16 n v9 (w64 (i13 + 1))))
    (some (.inr v9))
theorem p1_c (fuel : Nat) (s10 : ByteArray) (r11 : ByteArray) (r12 : ByteArray) (v14 : List T174) (v15 : Int) (v16 : Int) (n : Nat) (v9 : List ByteArray) (i13 : Int) (r : (List ByteArray) ⊕ (List ByteArray)) (h : p1 fuel s10 r11 r12 v14 v15 v16 n v9 i13 = some r) : TW Try.prog (.loop L1) (I1 v9 s10 r11 r12 i13 v14 v15 v16).sl.st (Q1 s10 r11 r12 v14 v15 v16 r) := by
  refine loop_run (σ := (List ByteArray) × Int) (fun x => I1 x.1 s10 r11 r12 x.2 v14 v15 v16) (fun n x => p1 fuel s10 r11 r12 v14 v15 v16 n x.1 x.2) (Q1 s10 r11 r12 v14 v15 v16) ?_ (fun _ => rfl) (x := (v9, i13)) h
  clear h
  rintro n ⟨v9, i13⟩ r h
  replace h : p1 fuel s10 r11 r12 v14 v15 v16 (n + 1) v9 i13 = some r := h
  rw [p1] at h
  rcases cond_cases h with ⟨h17, h⟩ | ⟨h17, h⟩
  · 
    obtain ⟨n18, h19, h⟩ := bind_cases h
    obtain ⟨_, h20, h⟩ := bind_cases h
    obtain ⟨r21, h22, h⟩ := bind_cases h
    rcases cond_cases h with ⟨h23, h⟩ | ⟨h23, h⟩
    · 
      obtain ⟨_, h24, h⟩ := bind_cases h
      obtain ⟨n25, h26, h⟩ := bind_cases h
      obtain ⟨_, h27, h⟩ := bind_cases h
      obtain ⟨_, h28, h⟩ := bind_cases h
      obtain ⟨r29, h30, h⟩ := bind_cases h
      rcases cond_cases h with ⟨h31, h⟩ | ⟨h31, h⟩
      · 
        obtain rfl := Option.some.inj h
        exact runAt_S (Q := Round _ (n + 1) _) (n := 100000) (c := (.code L1)) (K := []) (s := (I1 v9 s10 r11 r12 i13 v14 v15 v16).sl) (e := .ret) (t := J1_0 s10 r11 r12 v14 v15 v16 r29.2) (l := [(0, 0), (1, 3)])
          (hs := [hA, .h .sa, hA, .h .sa, hA, .g (.env 22 (C.v (vB true))), .any [[], [], [], [], [], [], [], [], [], [], [], [], [], [], [], [], [], [], [], [], [], [], [0, 1], [], []], .h (.ss n18 s10.size), hA, .call ⟨[.ro, .ro], 9, [], true, [], (vB r21), [], 3⟩, .g (.env 31 (C.v (vB true))), .h (.ss 0 n18), hA, .h .sa, hA, .h .sa, hA, .h (.ss n25 s10.size), .h .sa, .call ⟨[.ro, (.io none)], 9, [(1, (cs eT v9), (cs eT v9))], true, [(.bx [(vS eT r29.2)])], (vB r29.1), [[C.own (vS eT r29.2)]], 3⟩, hA, .g (.opn 0 0 3), .g (.env 49 (C.v (vB true)))])
          (ps := [C.v (vB (decide (w64 (i13 + (r11.size : Int)) ≤ (s10.size : Int)))) = C.v (vB true), (i13 : Int) = ((n18 : Nat) : Int), (s10.size : Int) = ((s10.size : Nat) : Int), n18 ≤ s10.size, s10.size ≤ s10.size, CallOK Try.prog 211 [.ro (vT (s10.extract n18 s10.size)), .ro (vT r11)] [] (vB r21), C.v (vB r21) = C.v (vB true), (0 : Int) = ((0 : Nat) : Int), (i13 : Int) = ((n18 : Nat) : Int), 0 ≤ n18, n18 ≤ s10.size, (s10.extract 0 n18).size + r12.size ≤ 9223372036854775807, (w64 (i13 + (r11.size : Int)) : Int) = ((n25 : Nat) : Int), (s10.size : Int) = ((s10.size : Nat) : Int), n25 ≤ s10.size, s10.size ≤ s10.size, ((s10.extract 0 n18) ++ r12).size + (s10.extract n25 s10.size).size ≤ 9223372036854775807, CallOK Try.prog 146 [.ro (vT (((s10.extract 0 n18) ++ r12) ++ (s10.extract n25 s10.size))), .io (.bx [(.sl 1 v9.length (cs eT v9))])] [(.bx [(vS eT r29.2)])] (vB r29.1), (own (cs eT v9)) = (cs eT v9).map C.own, 0 + v9.length * 1 ≤ (cs eT v9).length, ((cs eT v9).drop (0)).take (v9.length * 1) = (cs eT v9), ([(vS eT r29.2)] : List V).length = 1, ([(vS eT r29.2)] : List V).length = 1 ∨ ([C.sr 1 0 1 v9.length] : List C).length ≤ 0 + 1, ([C.sr 1 0 1 v9.length] : List C).take 0 ++ ([(vS eT r29.2)] : List V).map C.own ++ ([C.sr 1 0 1 v9.length] : List C).drop (0 + 1) = [C.own (vS eT r29.2)], C.v (vB (!r29.1)) = C.v (vB true), 0 = 0, (own (cs eT r29.2)) = (cs eT r29.2).map C.own, 0 = 0, r29.2.length = r29.2.length])
          (by kernel_rfl) ⟨vbB h17, (toN_S h19), rfl, (chk_S h20), (Nat.le_refl _), F211.fn_c fuel (s10.extract n18 s10.size) r11 _ h22, vbB h23, rfl, (toN_S h19), (Nat.zero_le _), (chk_S h20), (chk_S h24), (toN_S h26), rfl, (chk_S h27), (Nat.le_refl _), (chk_S h28), F146.fn_c fuel (((s10.extract 0 n18) ++ r12) ++ (s10.extract n25 s10.size)) v9 _ h30, rfl, len_all (e := eT) (rfl), take_cs (e := eT) (rfl), rfl, .inl rfl, rfl, vbB h31, rfl, rfl, rfl, rfl, trivial⟩ (fun st hl => ⟨rfl, hl⟩)
      · 
        exact runAt_S (Q := Round _ (n + 1) _) (n := 100000) (c := (.code L1)) (K := []) (s := (I1 v9 s10 r11 r12 i13 v14 v15 v16).sl) (e := .normal) (t := I1 r29.2 s10 r11 r12 (w64 (i13 + 1)) v14 v15 v16) (l := [(0, 0), (1, 3), (2, 2)])
          (hs := [hA, .h .sa, hA, .h .sa, hA, .g (.env 22 (C.v (vB true))), .any [[], [], [], [], [], [], [], [], [], [], [], [], [], [], [], [], [], [], [], [], [], [], [0, 1], [], []], .h (.ss n18 s10.size), hA, .call ⟨[.ro, .ro], 9, [], true, [], (vB r21), [], 3⟩, .g (.env 31 (C.v (vB true))), .h (.ss 0 n18), hA, .h .sa, hA, .h .sa, hA, .h (.ss n25 s10.size), .h .sa, .call ⟨[.ro, (.io none)], 9, [(1, (cs eT v9), (cs eT v9))], true, [(.bx [(vS eT r29.2)])], (vB r29.1), [[C.own (vS eT r29.2)]], 3⟩, hA, .g (.opn 0 0 3), .g (.env 49 (C.v (vB false))), hA])
          (ps := [C.v (vB (decide (w64 (i13 + (r11.size : Int)) ≤ (s10.size : Int)))) = C.v (vB true), (i13 : Int) = ((n18 : Nat) : Int), (s10.size : Int) = ((s10.size : Nat) : Int), n18 ≤ s10.size, s10.size ≤ s10.size, CallOK Try.prog 211 [.ro (vT (s10.extract n18 s10.size)), .ro (vT r11)] [] (vB r21), C.v (vB r21) = C.v (vB true), (0 : Int) = ((0 : Nat) : Int), (i13 : Int) = ((n18 : Nat) : Int), 0 ≤ n18, n18 ≤ s10.size, (s10.extract 0 n18).size + r12.size ≤ 9223372036854775807, (w64 (i13 + (r11.size : Int)) : Int) = ((n25 : Nat) : Int), (s10.size : Int) = ((s10.size : Nat) : Int), n25 ≤ s10.size, s10.size ≤ s10.size, ((s10.extract 0 n18) ++ r12).size + (s10.extract n25 s10.size).size ≤ 9223372036854775807, CallOK Try.prog 146 [.ro (vT (((s10.extract 0 n18) ++ r12) ++ (s10.extract n25 s10.size))), .io (.bx [(.sl 1 v9.length (cs eT v9))])] [(.bx [(vS eT r29.2)])] (vB r29.1), (own (cs eT v9)) = (cs eT v9).map C.own, 0 + v9.length * 1 ≤ (cs eT v9).length, ((cs eT v9).drop (0)).take (v9.length * 1) = (cs eT v9), ([(vS eT r29.2)] : List V).length = 1, ([(vS eT r29.2)] : List V).length = 1 ∨ ([C.sr 1 0 1 v9.length] : List C).length ≤ 0 + 1, ([C.sr 1 0 1 v9.length] : List C).take 0 ++ ([(vS eT r29.2)] : List V).map C.own ++ ([C.sr 1 0 1 v9.length] : List C).drop (0 + 1) = [C.own (vS eT r29.2)], C.v (vB (!r29.1)) = C.v (vB false), 0 = 0, Value.string s10 = Value.string s10, 0 = 0, 0 = 0, (w64 (i13 + 1) : Int) = (w64 (i13 + 1)), ((vS eT174 v14) : V) = (vS eT174 v14), (v15 : Int) = v15, (v16 : Int) = v16, (own (cs eT r29.2)) = (cs eT r29.2).map C.own, 0 = 0, r29.2.length = r29.2.length, Value.string r11 = Value.string r11, Value.string r12 = Value.string r12])
          (by kernel_rfl) ⟨vbB h17, (toN_S h19), rfl, (chk_S h20), (Nat.le_refl _), F211.fn_c fuel (s10.extract n18 s10.size) r11 _ h22, vbB h23, rfl, (toN_S h19), (Nat.zero_le _), (chk_S h20), (chk_S h24), (toN_S h26), rfl, (chk_S h27), (Nat.le_refl _), (chk_S h28), F146.fn_c fuel (((s10.extract 0 n18) ++ r12) ++ (s10.extract n25 s10.size)) v9 _ h30, rfl, len_all (e := eT) (rfl), take_cs (e := eT) (rfl), rfl, .inl rfl, rfl, vbB h31, rfl, rfl, rfl, rfl, rfl, rfl, rfl, rfl, rfl, rfl, rfl, rfl, rfl, trivial⟩ (fun st hl => ⟨n, _, Nat.lt_succ_self n, hl, (r29.2, w64 (i13 + 1)), rfl, rfl, h⟩)
    · 
      exact runAt_S (Q := Round _ (n + 1) _) (n := 100000) (c := (.code L1)) (K := []) (s := (I1 v9 s10 r11 r12 i13 v14 v15 v16).sl) (e := .normal) (t := I1 v9 s10 r11 r12 (w64 (i13 + 1)) v14 v15 v16) (l := [(0, 0), (1, 1), (2, 2)])
        (hs := [hA, .h .sa, hA, .h .sa, hA, .g (.env 22 (C.v (vB true))), .any [[], [], [], [], [], [], [], [], [], [], [], [], [], [], [], [], [], [], [], [], [], [], [], [], []], .h (.ss n18 s10.size), hA, .call ⟨[.ro, .ro], 9, [], true, [], (vB r21), [], 3⟩, .g (.env 31 (C.v (vB false))), hA])
        (ps := [C.v (vB (decide (w64 (i13 + (r11.size : Int)) ≤ (s10.size : Int)))) = C.v (vB true), (i13 : Int) = ((n18 : Nat) : Int), (s10.size : Int) = ((s10.size : Nat) : Int), n18 ≤ s10.size, s10.size ≤ s10.size, CallOK Try.prog 211 [.ro (vT (s10.extract n18 s10.size)), .ro (vT r11)] [] (vB r21), C.v (vB r21) = C.v (vB false), 0 = 0, Value.string s10 = Value.string s10, 0 = 0, 0 = 0, (w64 (i13 + 1) : Int) = (w64 (i13 + 1)), ((vS eT174 v14) : V) = (vS eT174 v14), (v15 : Int) = v15, (v16 : Int) = v16, (own (cs eT v9)) = (cs eT v9).map C.own, 0 = 0, v9.length = v9.length, Value.string r11 = Value.string r11, Value.string r12 = Value.string r12])
        (by kernel_rfl) ⟨vbB h17, (toN_S h19), rfl, (chk_S h20), (Nat.le_refl _), F211.fn_c fuel (s10.extract n18 s10.size) r11 _ h22, vbB h23, rfl, rfl, rfl, rfl, rfl, rfl, rfl, rfl, rfl, rfl, rfl, rfl, rfl, trivial⟩ (fun st hl => ⟨n, _, Nat.lt_succ_self n, hl, (v9, w64 (i13 + 1)), rfl, rfl, h⟩)
  · 
    obtain rfl := Option.some.inj h
    exact runAt_S (Q := Round _ (n + 1) _) (n := 100000) (c := (.code L1)) (K := []) (s := (I1 v9 s10 r11 r12 i13 v14 v15 v16).sl) (e := (.exit 2)) (t := J1_1 s10 r11 r12 v14 v15 v16 v9) (l := [(0, 0), (1, 1)])
      (hs := [hA, .h .sa, hA, .h .sa, hA, .g (.env 22 (C.v (vB false)))])
      (ps := [C.v (vB (decide (w64 (i13 + (r11.size : Int)) ≤ (s10.size : Int)))) = C.v (vB false), 0 = 0, Value.string s10 = Value.string s10, 0 = 0, ((vS eT174 v14) : V) = (vS eT174 v14), (v15 : Int) = v15, (v16 : Int) = v16, (own (cs eT v9)) = (cs eT v9).map C.own, 0 = 0, v9.length = v9.length])
      (by kernel_rfl) ⟨vbB h17, rfl, rfl, rfl, rfl, rfl, rfl, rfl, rfl, rfl, trivial⟩ (fun st hl => ⟨rfl, hl⟩)
def I0 (v1 : List ByteArray) (s2 : ByteArray) (v3 : List T174) (v4 : Int) (v5 : Int) : TL := ⟨51, [C.dead, C.dead, C.fn 146 [C.pr 0 0]], [(1, C.v (vT s2)), (2, C.fn 146 [C.pr 0 0]), (9, C.v (vS eT174 v3)), (10, C.v (vI .i64 v4)), (11, C.v (vI .i64 v5))], [(1, (cs eT v1))], [(0, [C.sr 1 0 1 v1.length])]⟩
def J0_0 (s2 : ByteArray) (v3 : List T174) (v4 : Int) (o : (List ByteArray)) : TL := ⟨51, [C.dead, C.dead, C.fn 146 [C.pr 0 0]], [], [(1, (cs eT o))], [(0, [C.sr 1 0 1 o.length])]⟩
def J0_1 (s2 : ByteArray) (v3 : List T174) (v4 : Int) (o : (List ByteArray)) : TL := ⟨51, [C.dead, C.dead, C.fn 146 [C.pr 0 0]], [], [(1, (cs eT o))], [(0, [C.sr 1 0 1 o.length])]⟩
def Q0 (s2 : ByteArray) (v3 : List T174) (v4 : Int) (r : (List ByteArray) ⊕ (List ByteArray)) (e : Exit) (st : St) : Prop := (Sum.elim (fun o => e = .ret ∧ Le st (J0_0 s2 v3 v4 o).sl.st) (fun o => e = (.exit 0) ∧ Le st (J0_1 s2 v3 v4 o).sl.st)) r
def p0 (fuel : Nat) (s2 : ByteArray) (v3 : List T174) (v4 : Int) : Nat → (List ByteArray) → Int → Option ((List ByteArray) ⊕ (List ByteArray))
  | 0, _, _ => none
  | n + 1, v1, v5 =>
    cond (decide (v5 < v4))
    ((idx v5 v3.length).bind fun j7 =>
      (p1 fuel s2 ((v3.getD j7 (default : T174)).f0) ((v3.getD j7 (default : T174)).f1) v3 v4 v5 fuel v1 (0 : Int)).bind fun r32 =>
      (Sum.elim (fun y34 => some (.inl y34))
      (fun y35 => p0 fuel s2 v3 v4 n y35 (w64 (v5 + 1)))) r32)
    (some (.inr v1))
theorem p0_c (fuel : Nat) (s2 : ByteArray) (v3 : List T174) (v4 : Int) (n : Nat) (v1 : List ByteArray) (v5 : Int) (r : (List ByteArray) ⊕ (List ByteArray)) (h : p0 fuel s2 v3 v4 n v1 v5 = some r) : TW Try.prog (.loop L0) (I0 v1 s2 v3 v4 v5).sl.st (Q0 s2 v3 v4 r) := by
  refine loop_run (σ := (List ByteArray) × Int) (fun x => I0 x.1 s2 v3 v4 x.2) (fun n x => p0 fuel s2 v3 v4 n x.1 x.2) (Q0 s2 v3 v4) ?_ (fun _ => rfl) (x := (v1, v5)) h
  clear h
  rintro n ⟨v1, v5⟩ r h
  replace h : p0 fuel s2 v3 v4 (n + 1) v1 v5 = some r := h
  rw [p0] at h
  rcases cond_cases h with ⟨h6, h⟩ | ⟨h6, h⟩
  · 
    obtain ⟨j7, h8, h⟩ := bind_cases h
    obtain ⟨r32, h33, h⟩ := bind_cases h
    refine runTo_S (n := 100000) (c := (.code L0)) (K := []) (s := (I0 v1 s2 v3 v4 v5).sl) (b := (.code (.loop L1))) (K1 := K1) (t := I1 v1 s2 ((v3.getD j7 (default : T174)).f0) ((v3.getD j7 (default : T174)).f1) (0 : Int) v3 v4 v5) (l := [(0, 0), (1, 1), (2, 2)])
      (hs := [hA, .g (.env 12 (C.v (vB true))), .h (.idv j7 (eT174.f (v3.getD j7 (default : T174)) ++ (cs eT174 (v3.drop (j7 + 1))))), hA, .h (.new 2), hA])
      (ps := [C.v (vB (decide (v5 < v4))) = C.v (vB true), v5 = (j7 : Int), j7 < v3.length, (cs eT174 v3).drop (j7 * 2) = (eT174.f (v3.getD j7 (default : T174)) ++ (cs eT174 (v3.drop (j7 + 1)))), cs eT174 v3 ≠ [], 0 = 0, Value.string s2 = Value.string s2, 0 = 0, 0 = 0, (0 : Int) = (0 : Int), ((vS eT174 v3) : V) = (vS eT174 v3), (v4 : Int) = v4, (v5 : Int) = v5, (own (cs eT v1)) = (cs eT v1).map C.own, 0 = 0, v1.length = v1.length, Value.string ((v3.getD j7 (default : T174)).f0) = Value.string ((v3.getD j7 (default : T174)).f0), Value.string ((v3.getD j7 (default : T174)).f1) = Value.string ((v3.getD j7 (default : T174)).f1)])
      (by kernel_rfl) ⟨vbB h6, (idx_S h8).1, (idx_S h8).2, cs_from (e := eT174) (d := (default : T174)) (idx_S h8).2, cs_ne (e := eT174) (idx_S h8).2 (by decide), rfl, rfl, rfl, rfl, rfl, rfl, rfl, rfl, rfl, rfl, rfl, rfl, rfl, trivial⟩ (cut_code ?_)
    refine TW.mono_le (p1_c fuel s2 ((v3.getD j7 (default : T174)).f0) ((v3.getD j7 (default : T174)).f1) v3 v4 v5 fuel v1 (0 : Int) _ h33) ?_
    rcases r32 with y34 | y35
    · 
      replace h := sum_l h
      rintro e st hq
      obtain ⟨rfl, hl⟩ := hq
      refine ⟨_, hl, ?_⟩
      obtain rfl := Option.some.inj h
      exact runAt_S (Q := Round _ (n + 1) _) (n := 100000) (c := (.out .ret)) (K := K1) (s := (J1_0 s2 ((v3.getD j7 (default : T174)).f0) ((v3.getD j7 (default : T174)).f1) v3 v4 v5 y34).sl) (e := .ret) (t := J0_0 s2 v3 v4 y34) (l := [(0, 0), (1, 1)])
        (hs := [])
        (ps := [0 = 0, (own (cs eT y34)) = (cs eT y34).map C.own, 0 = 0, y34.length = y34.length])
        (by kernel_rfl) ⟨rfl, rfl, rfl, rfl, trivial⟩ (fun st hl => ⟨rfl, hl⟩)
    · 
      replace h := sum_r h
      rintro e st hq
      obtain ⟨rfl, hl⟩ := hq
      refine ⟨_, hl, ?_⟩
      exact runAt_S (Q := Round _ (n + 1) _) (n := 100000) (c := (.out (.exit 2))) (K := K1) (s := (J1_1 s2 ((v3.getD j7 (default : T174)).f0) ((v3.getD j7 (default : T174)).f1) v3 v4 v5 y35).sl) (e := .normal) (t := I0 y35 s2 v3 v4 (w64 (v5 + 1))) (l := [(0, 0), (1, 1)])
        (hs := [hA])
        (ps := [0 = 0, Value.string s2 = Value.string s2, 0 = 0, ((vS eT174 v3) : V) = (vS eT174 v3), (v4 : Int) = v4, (w64 (v5 + 1) : Int) = (w64 (v5 + 1)), (own (cs eT y35)) = (cs eT y35).map C.own, 0 = 0, y35.length = y35.length])
        (by kernel_rfl) ⟨rfl, rfl, rfl, rfl, rfl, rfl, rfl, rfl, rfl, trivial⟩ (fun st hl => ⟨n, _, Nat.lt_succ_self n, hl, (y35, w64 (v5 + 1)), rfl, rfl, h⟩)
  · 
    obtain rfl := Option.some.inj h
    exact runAt_S (Q := Round _ (n + 1) _) (n := 100000) (c := (.code L0)) (K := []) (s := (I0 v1 s2 v3 v4 v5).sl) (e := (.exit 0)) (t := J0_1 s2 v3 v4 v1) (l := [(0, 0), (1, 1)])
      (hs := [hA, .g (.env 12 (C.v (vB false)))])
      (ps := [C.v (vB (decide (v5 < v4))) = C.v (vB false), 0 = 0, (own (cs eT v1)) = (cs eT v1).map C.own, 0 = 0, v1.length = v1.length])
      (by kernel_rfl) ⟨vbB h6, rfl, rfl, rfl, rfl, trivial⟩ (fun st hl => ⟨rfl, hl⟩)
def fn (fuel : Nat) (l0 : List T174) (s1 : ByteArray) (yield2c0 : List ByteArray) : Option (List ByteArray) :=
  (p0 fuel s1 l0 (l0.length : Int) fuel yield2c0 (0 : Int)).bind fun r36 =>
  (Sum.elim (fun y38 => some y38)
  (fun y39 => some y39)) r36
theorem ent : enterable Try.prog 145 = true := by kernel_rfl
theorem fn_c (fuel : Nat) (l0 : List T174) (s1 : ByteArray) (yield2c0 : List ByteArray) (r : (List ByteArray)) (h : fn fuel l0 s1 yield2c0 = some r) : CallOK Try.prog 145 [.ro (vS eT174 l0), .ro (vT s1), .io (.fn 146 [.bx [(vS eT yield2c0)]])] [(.fn 146 [.bx [(vS eT r)]])] (.tp []) := by
  refine contract_run Try.func145 (b := bod Try.f145) rfl ent ?_
  unfold fn at h
  obtain ⟨r36, h37, h⟩ := bind_cases h
  refine runTo_S (n := 100000) (c := (.code (bod Try.f145))) (K := []) (b := (.code (.loop L0))) (K1 := K0) (t := I0 yield2c0 s1 l0 (l0.length : Int) (0 : Int)) (l := [(0, 0), (1, 1)])
    (hs := [.g (.opn 0 0 1), hA])
    (ps := [0 = 0, Value.string s1 = Value.string s1, 0 = 0, ((vS eT174 l0) : V) = (vS eT174 l0), ((l0.length : Int) : Int) = (l0.length : Int), (0 : Int) = (0 : Int), (own (cs eT yield2c0)) = (cs eT yield2c0).map C.own, 0 = 0, yield2c0.length = yield2c0.length])
    (by kernel_rfl) ⟨rfl, rfl, rfl, rfl, rfl, rfl, rfl, rfl, rfl, trivial⟩ (cut_code ?_)
  refine TW.mono_le (p0_c fuel s1 l0 (l0.length : Int) fuel yield2c0 (0 : Int) _ h37) ?_
  rcases r36 with y38 | y39
  · 
    replace h := sum_l h
    rintro e st hq
    obtain ⟨rfl, hl⟩ := hq
    refine ⟨_, hl, ?_⟩
    obtain rfl := Option.some.inj h
    exact runRet_S (r := ⟨Try.f145.results.toList, _, _, _, [(1, (cs eT y38), (cs eT y38))], 9⟩) (n := 100000) (c := (.out .ret)) (K := K0) (s := (J0_0 s1 l0 (l0.length : Int) y38).sl)
      (hs := [])
      (ps := [(own (cs eT y38)) = (cs eT y38).map C.own, 0 + y38.length * 1 ≤ (cs eT y38).length, ((cs eT y38).drop (0)).take (y38.length * 1) = (cs eT y38), (.fn 146 [.bx [(.sl 1 y38.length (cs eT y38))]] : V) = .fn 146 [.bx [(vS eT y38)]], (V.tp []) = V.tp []])
      (by kernel_rfl) ⟨rfl, len_all (e := eT) (rfl), take_cs (e := eT) (rfl), rfl, rfl, trivial⟩ rfl (fun _ _ h => h)
  · 
    replace h := sum_r h
    rintro e st hq
    obtain ⟨rfl, hl⟩ := hq
    refine ⟨_, hl, ?_⟩
    obtain rfl := Option.some.inj h
    exact runRet_S (r := ⟨Try.f145.results.toList, _, _, _, [(1, (cs eT y39), (cs eT y39))], 9⟩) (n := 100000) (c := (.out (.exit 0))) (K := K0) (s := (J0_1 s1 l0 (l0.length : Int) y39).sl)
      (hs := [])
      (ps := [(own (cs eT y39)) = (cs eT y39).map C.own, 0 + y39.length * 1 ≤ (cs eT y39).length, ((cs eT y39).drop (0)).take (y39.length * 1) = (cs eT y39), (.fn 146 [.bx [(.sl 1 y39.length (cs eT y39))]] : V) = .fn 146 [.bx [(vS eT y39)]], (V.tp []) = V.tp []])
      (by kernel_rfl) ⟨rfl, len_all (e := eT) (rfl), take_cs (e := eT) (rfl), rfl, rfl, trivial⟩ rfl (fun _ _ h => h)
end F145_146
namespace F83
/-! impl.all -/
def fn (fuel : Nat) (l0 : List T174) (s1 : ByteArray) : Option (List ByteArray) :=
  (F145_146.fn fuel l0 s1 ([] : List ByteArray)).bind fun r1 =>
  some r1
theorem ent : enterable Try.prog 83 = true := by kernel_rfl
theorem fn_c (fuel : Nat) (l0 : List T174) (s1 : ByteArray) (r : (List ByteArray)) (h : fn fuel l0 s1 = some r) : CallOK Try.prog 83 [.ro (vS eT174 l0), .ro (vT s1)] [] (vS eT r) := by
  refine contract_run Try.func83 (b := bod Try.f83) rfl ent ?_
  unfold fn at h
  obtain ⟨r1, h2, h⟩ := bind_cases h
  obtain rfl := Option.some.inj h
  exact runRet_S (r := ⟨Try.f83.results.toList, _, _, _, [(2, (cs eT r1), (cs eT r1))], 9⟩) (n := 100000) (c := (.code (bod Try.f83))) (K := [])
    (hs := [.h (.new 0), .h (.new 1), hA, .call ⟨[.ro, .ro, (.io none)], 9, [(0, (cs eT ([] : List ByteArray)), (cs eT ([] : List ByteArray)))], true, [(.fn 146 [(.bx [(vS eT r1)])])], (.tp []), [[C.own (vS eT r1)]], 2⟩, .g (.opn 1 0 2), hA])
    (ps := [CallOK Try.prog 145 [.ro (vS eT174 l0), .ro (vT s1), .io (.fn 146 [(.bx [(.sl 1 0 (cs eT ([] : List ByteArray)))])])] [(.fn 146 [(.bx [(vS eT r1)])])] (.tp []), (own (cs eT ([] : List ByteArray))) = (cs eT ([] : List ByteArray)).map C.own, 0 + 0 * 1 ≤ (cs eT ([] : List ByteArray)).length, ((cs eT ([] : List ByteArray)).drop (0)).take (0 * 1) = (cs eT ([] : List ByteArray)), ([(vS eT r1)] : List V).length = 1, ([(vS eT r1)] : List V).length = 1 ∨ ([C.sr 0 0 1 0] : List C).length ≤ 0 + 1, ([C.sr 0 0 1 0] : List C).take 0 ++ ([(vS eT r1)] : List V).map C.own ++ ([C.sr 0 0 1 0] : List C).drop (0 + 1) = [C.own (vS eT r1)], (own (cs eT r1)) = (cs eT r1).map C.own, 0 + r1.length * 1 ≤ (cs eT r1).length, ((cs eT r1).drop (0)).take (r1.length * 1) = (cs eT r1), ((.sl 1 r1.length (cs eT r1)) : V) = (vS eT r1)])
    (by kernel_rfl) ⟨F145_146.fn_c fuel l0 s1 ([] : List ByteArray) _ h2, rfl, len_all (e := eT) (rfl), take_cs (e := eT) (rfl), rfl, .inl rfl, rfl, rfl, len_all (e := eT) (rfl), take_cs (e := eT) (rfl), rfl, trivial⟩ rfl (fun _ _ h => h)
end F83
namespace F76
/-! impl.normal -/
noncomputable def K0 := (subC [1, 1, 0] (bod Try.f76) []).2
noncomputable def L0 := (subC [1, 1, 0, 0] (bod Try.f76) []).1
def I0 (l1 : List T174) (s2 : ByteArray) (last3 : Bool) (times4 : Int) : TL := ⟨36, [C.dead, C.dead, C.dead], [(0, C.v (vS eT174 l1)), (1, C.v (vT s2)), (2, C.v (vB last3)), (9, C.v (vI .i64 times4))], [], []⟩
def J0_0 (l1 : List T174) (last3 : Bool) (o : ByteArray × Int × Bool) : TL := ⟨36, [C.dead, C.dead, C.dead], [(6, C.v (vT o.1)), (7, C.v (vI .i64 o.2.1)), (8, C.v (vB o.2.2))], [], []⟩
def Q0 (l1 : List T174) (last3 : Bool) (r : ByteArray × Int × Bool) (e : Exit) (st : St) : Prop := (fun o => e = .ret ∧ Le st (J0_0 l1 last3 o).sl.st) r
def p0 (fuel : Nat) (l1 : List T174) (last3 : Bool) : Nat → ByteArray → Int → Option (ByteArray × Int × Bool)
  | 0, _, _ => none
  | n + 1, s2, times4 =>
    (F83.fn fuel l1 s2).bind fun r5 =>
    cond (decide ((r5.length : Int) = 0))
    (some (s2, times4, true))
    (cond (decide (times4 = 400))
      (some (ByteArray.empty, (0 : Int), false))
      (cond (last3)
        ((idx (w64 ((r5.length : Int) - 1)) r5.length).bind fun j10 =>
          p0 fuel l1 last3 n (r5.getD j10 ByteArray.empty) (w64 (times4 + 1)))
        ((idx 0 r5.length).bind fun j12 =>
          p0 fuel l1 last3 n (r5.getD j12 ByteArray.empty) (w64 (times4 + 1)))))
theorem p0_c (fuel : Nat) (l1 : List T174) (last3 : Bool) (n : Nat) (s2 : ByteArray) (times4 : Int) (r : ByteArray × Int × Bool) (h : p0 fuel l1 last3 n s2 times4 = some r) : TW Try.prog (.loop L0) (I0 l1 s2 last3 times4).sl.st (Q0 l1 last3 r) := by
  refine loop_run (σ := ByteArray × Int) (fun x => I0 l1 x.1 last3 x.2) (fun n x => p0 fuel l1 last3 n x.1 x.2) (Q0 l1 last3) ?_ (fun _ => rfl) (x := (s2, times4)) h
  clear h
  rintro n ⟨s2, times4⟩ r h
  replace h : p0 fuel l1 last3 (n + 1) s2 times4 = some r := h
  rw [p0] at h
  obtain ⟨r5, h6, h⟩ := bind_cases h
  rcases cond_cases h with ⟨h7, h⟩ | ⟨h7, h⟩
  · 
    obtain rfl := Option.some.inj h
    exact runAt_S (Q := Round _ (n + 1) _) (n := 100000) (c := (.code L0)) (K := []) (s := (I0 l1 s2 last3 times4).sl) (e := .ret) (t := J0_0 l1 last3 (s2, times4, true)) (l := [])
      (hs := [.call ⟨[.ro, .ro], 9, [], true, [], (vS eT r5), [], 0⟩, hA, hA, .skip, .g (.env 19 (C.v (vB true)))])
      (ps := [CallOK Try.prog 83 [.ro (vS eT174 l1), .ro (vT s2)] [] (vS eT r5), C.v (vB (decide ((r5.length : Int) = 0))) = C.v (vB true), Value.string s2 = Value.string s2, (times4 : Int) = times4, (true : Bool) = true])
      (by kernel_rfl) ⟨F83.fn_c fuel l1 s2 _ h6, vbB h7, rfl, rfl, rfl, trivial⟩ (fun st hl => ⟨rfl, hl⟩)
  · 
    rcases cond_cases h with ⟨h8, h⟩ | ⟨h8, h⟩
    · 
      obtain rfl := Option.some.inj h
      exact runAt_S (Q := Round _ (n + 1) _) (n := 100000) (c := (.code L0)) (K := []) (s := (I0 l1 s2 last3 times4).sl) (e := .ret) (t := J0_0 l1 last3 (ByteArray.empty, (0 : Int), false)) (l := [])
        (hs := [.call ⟨[.ro, .ro], 9, [], true, [], (vS eT r5), [], 0⟩, hA, hA, .skip, .g (.env 19 (C.v (vB false))), hA, .skip, .g (.env 25 (C.v (vB true)))])
        (ps := [CallOK Try.prog 83 [.ro (vS eT174 l1), .ro (vT s2)] [] (vS eT r5), C.v (vB (decide ((r5.length : Int) = 0))) = C.v (vB false), C.v (vB (decide (times4 = 400))) = C.v (vB true), Value.string ByteArray.empty = Value.string ByteArray.empty, (0 : Int) = (0 : Int), (false : Bool) = false])
        (by kernel_rfl) ⟨F83.fn_c fuel l1 s2 _ h6, vbB h7, vbB h8, rfl, rfl, rfl, trivial⟩ (fun st hl => ⟨rfl, hl⟩)
    · 
      rcases cond_cases h with ⟨h9, h⟩ | ⟨h9, h⟩
      · 
        obtain ⟨j10, h11, h⟩ := bind_cases h
        exact runAt_S (Q := Round _ (n + 1) _) (n := 100000) (c := (.code L0)) (K := []) (s := (I0 l1 s2 last3 times4).sl) (e := .normal) (t := I0 l1 (r5.getD j10 ByteArray.empty) last3 (w64 (times4 + 1))) (l := [])
          (hs := [.call ⟨[.ro, .ro], 9, [], true, [], (vS eT r5), [], 0⟩, hA, hA, .skip, .g (.env 19 (C.v (vB false))), hA, .skip, .g (.env 25 (C.v (vB false))), .skip, .skip, .skip, .g (.env 28 (C.v (vB true))), hA, hA, .h (.idx j10 false), .h (.cell (C.v (vT (r5.getD j10 ByteArray.empty)))), hA])
          (ps := [CallOK Try.prog 83 [.ro (vS eT174 l1), .ro (vT s2)] [] (vS eT r5), C.v (vB (decide ((r5.length : Int) = 0))) = C.v (vB false), C.v (vB (decide (times4 = 400))) = C.v (vB false), C.v (vB last3) = C.v (vB true), w64 ((r5.length : Int) - 1) = (j10 : Int), j10 < r5.length, ((own (cs eT r5))[0 + j10 * 1]?).bind readC = some (C.v (vT (r5.getD j10 ByteArray.empty))), ((vS eT174 l1) : V) = (vS eT174 l1), Value.string (r5.getD j10 ByteArray.empty) = Value.string (r5.getD j10 ByteArray.empty), (last3 : Bool) = last3, (w64 (times4 + 1) : Int) = (w64 (times4 + 1))])
          (by kernel_rfl) ⟨F83.fn_c fuel l1 s2 _ h6, vbB h7, vbB h8, vbB h9, (idx_S h11).1, (idx_S h11).2, readC_at (e := eT) (k := 0) (d := ByteArray.empty) (idx_S h11).2 (by decide) rfl, rfl, rfl, rfl, rfl, trivial⟩ (fun st hl => ⟨n, _, Nat.lt_succ_self n, hl, ((r5.getD j10 ByteArray.empty), w64 (times4 + 1)), rfl, rfl, h⟩)
      · 
        obtain ⟨j12, h13, h⟩ := bind_cases h
        exact runAt_S (Q := Round _ (n + 1) _) (n := 100000) (c := (.code L0)) (K := []) (s := (I0 l1 s2 last3 times4).sl) (e := .normal) (t := I0 l1 (r5.getD j12 ByteArray.empty) last3 (w64 (times4 + 1))) (l := [])
          (hs := [.call ⟨[.ro, .ro], 9, [], true, [], (vS eT r5), [], 0⟩, hA, hA, .skip, .g (.env 19 (C.v (vB false))), hA, .skip, .g (.env 25 (C.v (vB false))), .skip, .skip, .skip, .g (.env 28 (C.v (vB false))), .h (.idx j12 false), .h (.cell (C.v (vT (r5.getD j12 ByteArray.empty)))), hA])
          (ps := [CallOK Try.prog 83 [.ro (vS eT174 l1), .ro (vT s2)] [] (vS eT r5), C.v (vB (decide ((r5.length : Int) = 0))) = C.v (vB false), C.v (vB (decide (times4 = 400))) = C.v (vB false), C.v (vB last3) = C.v (vB false), 0 = (j12 : Int), j12 < r5.length, ((own (cs eT r5))[0 + j12 * 1]?).bind readC = some (C.v (vT (r5.getD j12 ByteArray.empty))), ((vS eT174 l1) : V) = (vS eT174 l1), Value.string (r5.getD j12 ByteArray.empty) = Value.string (r5.getD j12 ByteArray.empty), (last3 : Bool) = last3, (w64 (times4 + 1) : Int) = (w64 (times4 + 1))])
          (by kernel_rfl) ⟨F83.fn_c fuel l1 s2 _ h6, vbB h7, vbB h8, vbB h9, (idx_S h13).1, (idx_S h13).2, readC_at (e := eT) (k := 0) (d := ByteArray.empty) (idx_S h13).2 (by decide) rfl, rfl, rfl, rfl, rfl, trivial⟩ (fun st hl => ⟨n, _, Nat.lt_succ_self n, hl, ((r5.getD j12 ByteArray.empty), w64 (times4 + 1)), rfl, rfl, h⟩)
def fn (fuel : Nat) (l0 : List T174) (s1 : ByteArray) (last2 : Bool) : Option (ByteArray × Int × Bool) :=
  (p0 fuel l0 last2 fuel s1 (0 : Int)).bind fun r14 =>
  some (r14.1, r14.2.1, r14.2.2)
theorem ent : enterable Try.prog 76 = true := by kernel_rfl
theorem fn_c (fuel : Nat) (l0 : List T174) (s1 : ByteArray) (last2 : Bool) (r : ByteArray × Int × Bool) (h : fn fuel l0 s1 last2 = some r) : CallOK Try.prog 76 [.ro (vS eT174 l0), .ro (vT s1), .ro (vB last2)] [] (.tp [(vT r.1), (vI .i64 r.2.1), (vB r.2.2)]) := by
  refine contract_run Try.func76 (b := bod Try.f76) rfl ent ?_
  unfold fn at h
  obtain ⟨r14, h15, h⟩ := bind_cases h
  refine runTo_S (n := 100000) (c := (.code (bod Try.f76))) (K := []) (b := (.code (.loop L0))) (K1 := K0) (t := I0 l0 s1 last2 (0 : Int)) (l := [])
    (hs := [])
    (ps := [((vS eT174 l0) : V) = (vS eT174 l0), Value.string s1 = Value.string s1, (last2 : Bool) = last2, (0 : Int) = (0 : Int)])
    (by kernel_rfl) ⟨rfl, rfl, rfl, rfl, trivial⟩ (cut_code ?_)
  refine TW.mono_le (p0_c fuel l0 last2 fuel s1 (0 : Int) _ h15) ?_
  rintro e st hq
  obtain ⟨rfl, hl⟩ := hq
  refine ⟨_, hl, ?_⟩
  obtain rfl := Option.some.inj h
  exact runRet_S (r := ⟨Try.f76.results.toList, _, _, _, [], 9⟩) (n := 100000) (c := (.out .ret)) (K := K0) (s := (J0_0 l0 last2 r14).sl)
    (hs := [])
    (ps := [(V.tp [(vT r14.1), (vI .i64 r14.2.1), (vB r14.2.2)]) = V.tp [(vT r14.1), (vI .i64 r14.2.1), (vB r14.2.2)]])
    (by kernel_rfl) ⟨rfl, trivial⟩ rfl (fun _ _ h => h)
end F76
namespace F15
/-! impl.NormalOf -/
def fn (fuel : Nat) (l0 : List T174) (s1 : ByteArray) : Option (ByteArray × Int × Bool) :=
  (F75.fn fuel l0 s1).bind fun r1 =>
  cond (!r1)
  (some (ByteArray.empty, 0, false))
  ((F76.fn fuel l0 s1 false).bind fun r4 =>
    some (r4.1, r4.2.1, r4.2.2))
theorem ent : enterable Try.prog 15 = true := by kernel_rfl
theorem fn_c (fuel : Nat) (l0 : List T174) (s1 : ByteArray) (r : ByteArray × Int × Bool) (h : fn fuel l0 s1 = some r) : CallOK Try.prog 15 [.ro (vS eT174 l0), .ro (vT s1)] [] (.tp [(vT r.1), (vI .i64 r.2.1), (vB r.2.2)]) := by
  refine contract_run Try.func15 (b := bod Try.f15) rfl ent ?_
  unfold fn at h
  obtain ⟨r1, h2, h⟩ := bind_cases h
  rcases cond_cases h with ⟨h3, h⟩ | ⟨h3, h⟩
  · 
    obtain rfl := Option.some.inj h
    exact runRet_S (r := ⟨Try.f15.results.toList, _, _, _, [], 9⟩) (n := 100000) (c := (.code (bod Try.f15))) (K := [])
      (hs := [.call ⟨[.ro, .ro], 9, [], true, [], (vB r1), [], 0⟩, hA, .g (.env 10 (C.v (vB true)))])
      (ps := [CallOK Try.prog 75 [.ro (vS eT174 l0), .ro (vT s1)] [] (vB r1), C.v (vB (!r1)) = C.v (vB true), (V.tp [(vT ByteArray.empty), (vI .i64 0), (vB false)]) = V.tp [(vT ByteArray.empty), (vI .i64 0), (vB false)]])
      (by kernel_rfl) ⟨F75.fn_c fuel l0 s1 _ h2, vbB h3, rfl, trivial⟩ rfl (fun _ _ h => h)
  · 
    obtain ⟨r4, h5, h⟩ := bind_cases h
    obtain rfl := Option.some.inj h
    exact runRet_S (r := ⟨Try.f15.results.toList, _, _, _, [], 9⟩) (n := 100000) (c := (.code (bod Try.f15))) (K := [])
      (hs := [.call ⟨[.ro, .ro], 9, [], true, [], (vB r1), [], 0⟩, hA, .g (.env 10 (C.v (vB false))), .call ⟨[.ro, .ro, .ro], 9, [], true, [], (.tp [(vT r4.1), (vI .i64 r4.2.1), (vB r4.2.2)]), [], 0⟩])
      (ps := [CallOK Try.prog 75 [.ro (vS eT174 l0), .ro (vT s1)] [] (vB r1), C.v (vB (!r1)) = C.v (vB false), CallOK Try.prog 76 [.ro (vS eT174 l0), .ro (vT s1), .ro (vB false)] [] (.tp [(vT r4.1), (vI .i64 r4.2.1), (vB r4.2.2)]), (V.tp [(vT r4.1), (vI .i64 r4.2.1), (vB r4.2.2)]) = V.tp [(vT r4.1), (vI .i64 r4.2.1), (vB r4.2.2)]])
      (by kernel_rfl) ⟨F75.fn_c fuel l0 s1 _ h2, vbB h3, F76.fn_c fuel l0 s1 false _ h5, rfl, trivial⟩ rfl (fun _ _ h => h)
end F15
namespace F78
/-! spec.l15Text -/
noncomputable def K0 := (subC [1, 0, 1, 0] (bod Try.f78) []).2
noncomputable def L0 := (subC [1, 0, 1, 0, 0] (bod Try.f78) []).1
def I0 (s1 : ByteArray) (most2 : Int) (i3 : Int) : TL := ⟨26, [C.dead, C.dead], [(0, C.v (vT s1)), (1, C.v (vI .i64 most2)), (5, C.v (vI .i64 i3))], [], []⟩
def J0_0 (s1 : ByteArray) (most2 : Int) (o : Unit) : TL := ⟨26, [C.dead, C.dead], [(4, C.v (vB false))], [], []⟩
def J0_1 (s1 : ByteArray) (most2 : Int) (o : Unit) : TL := ⟨26, [C.dead, C.dead], [(0, C.v (vT s1)), (1, C.v (vI .i64 most2))], [], []⟩
def Q0 (s1 : ByteArray) (most2 : Int) (r : Unit ⊕ Unit) (e : Exit) (st : St) : Prop := (Sum.elim (fun o => e = .ret ∧ Le st (J0_0 s1 most2 o).sl.st) (fun o => e = (.exit 0) ∧ Le st (J0_1 s1 most2 o).sl.st)) r
def p0 (fuel : Nat) (s1 : ByteArray) (most2 : Int) : Nat → Int → Option (Unit ⊕ Unit)
  | 0, _ => none
  | n + 1, i3 =>
    cond (decide (i3 < (s1.size : Int)))
    ((idx i3 s1.size).bind fun j5 =>
      cond (decide (bt s1 j5 < 97))
      (some (.inl ()))
      (cond (decide (bt s1 j5 > 100))
        (some (.inl ()))
        (p0 fuel s1 most2 n (w64 (i3 + 1)))))
    (some (.inr ()))
theorem p0_c (fuel : Nat) (s1 : ByteArray) (most2 : Int) (n : Nat) (i3 : Int) (r : Unit ⊕ Unit) (h : p0 fuel s1 most2 n i3 = some r) : TW Try.prog (.loop L0) (I0 s1 most2 i3).sl.st (Q0 s1 most2 r) := by
  refine loop_run (σ := Int) (fun x => I0 s1 most2 x) (fun n x => p0 fuel s1 most2 n x) (Q0 s1 most2) ?_ (fun _ => rfl) (x := i3) h
  clear h
  rintro n i3 r h
  replace h : p0 fuel s1 most2 (n + 1) i3 = some r := h
  rw [p0] at h
  rcases cond_cases h with ⟨h4, h⟩ | ⟨h4, h⟩
  · 
    obtain ⟨j5, h6, h⟩ := bind_cases h
    rcases cond_cases h with ⟨h7, h⟩ | ⟨h7, h⟩
    · 
      obtain rfl := Option.some.inj h
      exact runAt_S (Q := Round _ (n + 1) _) (n := 100000) (c := (.code L0)) (K := []) (s := (I0 s1 most2 i3).sl) (e := .ret) (t := J0_0 s1 most2 ()) (l := [])
        (hs := [.h .sa, hA, .g (.env 9 (C.v (vB true))), .h (.si j5), hA, .skip, .g (.env 16 (C.v (vB true)))])
        (ps := [C.v (vB (decide (i3 < (s1.size : Int)))) = C.v (vB true), i3 = (j5 : Int), j5 < s1.size, C.v (vB (decide (bt s1 j5 < 97))) = C.v (vB true), (false : Bool) = false])
        (by kernel_rfl) ⟨vbB h4, (idx_S h6).1, (idx_S h6).2, vbB h7, rfl, trivial⟩ (fun st hl => ⟨rfl, hl⟩)
    · 
      rcases cond_cases h with ⟨h8, h⟩ | ⟨h8, h⟩
      · 
        obtain rfl := Option.some.inj h
        exact runAt_S (Q := Round _ (n + 1) _) (n := 100000) (c := (.code L0)) (K := []) (s := (I0 s1 most2 i3).sl) (e := .ret) (t := J0_0 s1 most2 ()) (l := [])
          (hs := [.h .sa, hA, .g (.env 9 (C.v (vB true))), .h (.si j5), hA, .skip, .g (.env 16 (C.v (vB false))), .h (.si j5), hA, .skip, .g (.env 21 (C.v (vB true)))])
          (ps := [C.v (vB (decide (i3 < (s1.size : Int)))) = C.v (vB true), i3 = (j5 : Int), j5 < s1.size, C.v (vB (decide (bt s1 j5 < 97))) = C.v (vB false), i3 = (j5 : Int), j5 < s1.size, C.v (vB (decide (bt s1 j5 > 100))) = C.v (vB true), (false : Bool) = false])
          (by kernel_rfl) ⟨vbB h4, (idx_S h6).1, (idx_S h6).2, vbB h7, (idx_S h6).1, (idx_S h6).2, vbB h8, rfl, trivial⟩ (fun st hl => ⟨rfl, hl⟩)
      · 
        exact runAt_S (Q := Round _ (n + 1) _) (n := 100000) (c := (.code L0)) (K := []) (s := (I0 s1 most2 i3).sl) (e := .normal) (t := I0 s1 most2 (w64 (i3 + 1))) (l := [])
          (hs := [.h .sa, hA, .g (.env 9 (C.v (vB true))), .h (.si j5), hA, .skip, .g (.env 16 (C.v (vB false))), .h (.si j5), hA, .skip, .g (.env 21 (C.v (vB false))), hA])
          (ps := [C.v (vB (decide (i3 < (s1.size : Int)))) = C.v (vB true), i3 = (j5 : Int), j5 < s1.size, C.v (vB (decide (bt s1 j5 < 97))) = C.v (vB false), i3 = (j5 : Int), j5 < s1.size, C.v (vB (decide (bt s1 j5 > 100))) = C.v (vB false), Value.string s1 = Value.string s1, (most2 : Int) = most2, (w64 (i3 + 1) : Int) = (w64 (i3 + 1))])
          (by kernel_rfl) ⟨vbB h4, (idx_S h6).1, (idx_S h6).2, vbB h7, (idx_S h6).1, (idx_S h6).2, vbB h8, rfl, rfl, rfl, trivial⟩ (fun st hl => ⟨n, _, Nat.lt_succ_self n, hl, w64 (i3 + 1), rfl, rfl, h⟩)
  · 
    obtain rfl := Option.some.inj h
    exact runAt_S (Q := Round _ (n + 1) _) (n := 100000) (c := (.code L0)) (K := []) (s := (I0 s1 most2 i3).sl) (e := (.exit 0)) (t := J0_1 s1 most2 ()) (l := [])
      (hs := [.h .sa, hA, .g (.env 9 (C.v (vB false)))])
      (ps := [C.v (vB (decide (i3 < (s1.size : Int)))) = C.v (vB false), Value.string s1 = Value.string s1, (most2 : Int) = most2])
      (by kernel_rfl) ⟨vbB h4, rfl, rfl, trivial⟩ (fun st hl => ⟨rfl, hl⟩)
def fn (fuel : Nat) (s0 : ByteArray) (most1 : Int) : Option Bool :=
  (p0 fuel s0 most1 fuel (0 : Int)).bind fun r9 =>
  (Sum.elim (fun y11 => some false)
  (fun y12 => some (decide ((s0.size : Int) ≤ most1)))) r9
theorem ent : enterable Try.prog 78 = true := by kernel_rfl
theorem fn_c (fuel : Nat) (s0 : ByteArray) (most1 : Int) (r : Bool) (h : fn fuel s0 most1 = some r) : CallOK Try.prog 78 [.ro (vT s0), .ro (vI .i64 most1)] [] (vB r) := by
  refine contract_run Try.func78 (b := bod Try.f78) rfl ent ?_
  unfold fn at h
  obtain ⟨r9, h10, h⟩ := bind_cases h
  refine runTo_S (n := 100000) (c := (.code (bod Try.f78))) (K := []) (b := (.code (.loop L0))) (K1 := K0) (t := I0 s0 most1 (0 : Int)) (l := [])
    (hs := [])
    (ps := [Value.string s0 = Value.string s0, (most1 : Int) = most1, (0 : Int) = (0 : Int)])
    (by kernel_rfl) ⟨rfl, rfl, rfl, trivial⟩ (cut_code ?_)
  refine TW.mono_le (p0_c fuel s0 most1 fuel (0 : Int) _ h10) ?_
  rcases r9 with y11 | y12
  · 
    replace h := sum_l h
    rintro e st hq
    obtain ⟨rfl, hl⟩ := hq
    refine ⟨_, hl, ?_⟩
    obtain rfl := Option.some.inj h
    exact runRet_S (r := ⟨Try.f78.results.toList, _, _, _, [], 9⟩) (n := 100000) (c := (.out .ret)) (K := K0) (s := (J0_0 s0 most1 y11).sl)
      (hs := [])
      (ps := [(false : Bool) = false])
      (by kernel_rfl) ⟨rfl, trivial⟩ rfl (fun _ _ h => h)
  · 
    replace h := sum_r h
    rintro e st hq
    obtain ⟨rfl, hl⟩ := hq
    refine ⟨_, hl, ?_⟩
    obtain rfl := Option.some.inj h
    exact runRet_S (r := ⟨Try.f78.results.toList, _, _, _, [], 9⟩) (n := 100000) (c := (.out (.exit 0))) (K := K0) (s := (J0_1 s0 most1 y12).sl)
      (hs := [.h .sa, hA])
      (ps := [(decide ((s0.size : Int) ≤ most1) : Bool) = (decide ((s0.size : Int) ≤ most1))])
      (by kernel_rfl) ⟨rfl, trivial⟩ rfl (fun _ _ h => h)
end F78
namespace F77
/-! spec.GoodRules -/
noncomputable def K0 := (subC [1, 0, 1, 0] (bod Try.f77) []).2
noncomputable def L0 := (subC [1, 0, 1, 0, 0] (bod Try.f77) []).1
noncomputable def K1 := (subC [1, 1, 0, 0, 1, 0] L0 []).2
noncomputable def B1 := (subC [1, 1, 0, 0, 1, 0] L0 []).1
def I1 (l8 : List T174) (r9 : ByteArray) (r10 : ByteArray) (v11 : List T174) (v12 : Int) (v13 : Int) : TL := ⟨38, [C.dead], [(0, C.v (vS eT174 l8)), (4, C.pr 0 0), (5, C.v (vS eT174 v11)), (6, C.v (vI .i64 v12)), (7, C.v (vI .i64 v13))], [], [(0, [C.own (vT r9), C.own (vT r10)])]⟩
def J1_0 (l8 : List T174) (r9 : ByteArray) (r10 : ByteArray) (v11 : List T174) (v12 : Int) (v13 : Int) (o : Bool) : TL := ⟨38, [C.dead], [(0, C.v (vS eT174 l8)), (5, C.v (vS eT174 v11)), (6, C.v (vI .i64 v12)), (7, C.v (vI .i64 v13)), (33, C.v (vB o))], [], []⟩
def Q1 (l8 : List T174) (r9 : ByteArray) (r10 : ByteArray) (v11 : List T174) (v12 : Int) (v13 : Int) (r : Bool) (e : Exit) (st : St) : Prop := (fun o => e = .normal ∧ Le st (J1_0 l8 r9 r10 v11 v12 v13 o).sl.st) r
def p1 (fuel : Nat) (l8 : List T174) (r9 : ByteArray) (r10 : ByteArray) (v11 : List T174) (v12 : Int) (v13 : Int) : Option Bool :=
  cond (sEq r9 ByteArray.empty)
  (some true)
  ((F78.fn fuel r9 6).bind fun r15 =>
    cond (!r15)
    (some true)
    ((F78.fn fuel r10 6).bind fun r18 =>
      cond (!r18)
      (some true)
      ((F139.fn fuel r10 r9).bind fun r21 =>
        some (!r21))))
theorem p1_c (fuel : Nat) (l8 : List T174) (r9 : ByteArray) (r10 : ByteArray) (v11 : List T174) (v12 : Int) (v13 : Int) (r : Bool) (h : p1 fuel l8 r9 r10 v11 v12 v13 = some r) : TW Try.prog B1 (I1 l8 r9 r10 v11 v12 v13).sl.st (Q1 l8 r9 r10 v11 v12 v13 r) := by
  unfold p1 at h
  rcases cond_cases h with ⟨h14, h⟩ | ⟨h14, h⟩
  · 
    obtain rfl := Option.some.inj h
    exact runAt_S (Q := Q1 l8 r9 r10 v11 v12 v13 _) (n := 100000) (c := (.code B1)) (K := []) (s := (I1 l8 r9 r10 v11 v12 v13).sl) (e := .normal) (t := J1_0 l8 r9 r10 v11 v12 v13 true) (l := [])
      (hs := [hA, hA, .skip, .g (.env 14 (C.v (vB true)))])
      (ps := [C.v (vB (sEq r9 ByteArray.empty)) = C.v (vB true), ((vS eT174 l8) : V) = (vS eT174 l8), ((vS eT174 v11) : V) = (vS eT174 v11), (v12 : Int) = v12, (v13 : Int) = v13, (true : Bool) = true])
      (by kernel_rfl) ⟨vbB h14, rfl, rfl, rfl, rfl, rfl, trivial⟩ (fun st hl => ⟨rfl, hl⟩)
  · 
    obtain ⟨r15, h16, h⟩ := bind_cases h
    rcases cond_cases h with ⟨h17, h⟩ | ⟨h17, h⟩
    · 
      obtain rfl := Option.some.inj h
      exact runAt_S (Q := Q1 l8 r9 r10 v11 v12 v13 _) (n := 100000) (c := (.code B1)) (K := []) (s := (I1 l8 r9 r10 v11 v12 v13).sl) (e := .normal) (t := J1_0 l8 r9 r10 v11 v12 v13 true) (l := [])
        (hs := [hA, hA, .skip, .g (.env 14 (C.v (vB false))), hA, .call ⟨[.ro, .ro], 9, [], true, [], (vB r15), [], 1⟩, hA, .skip, .skip, .g (.env 20 (C.v (vB true)))])
        (ps := [C.v (vB (sEq r9 ByteArray.empty)) = C.v (vB false), CallOK Try.prog 78 [.ro (vT r9), .ro (vI .i64 6)] [] (vB r15), C.v (vB (!r15)) = C.v (vB true), ((vS eT174 l8) : V) = (vS eT174 l8), ((vS eT174 v11) : V) = (vS eT174 v11), (v12 : Int) = v12, (v13 : Int) = v13, (true : Bool) = true])
        (by kernel_rfl) ⟨vbB h14, F78.fn_c fuel r9 6 _ h16, vbB h17, rfl, rfl, rfl, rfl, rfl, trivial⟩ (fun st hl => ⟨rfl, hl⟩)
    · 
      obtain ⟨r18, h19, h⟩ := bind_cases h
      rcases cond_cases h with ⟨h20, h⟩ | ⟨h20, h⟩
      · 
        obtain rfl := Option.some.inj h
        exact runAt_S (Q := Q1 l8 r9 r10 v11 v12 v13 _) (n := 100000) (c := (.code B1)) (K := []) (s := (I1 l8 r9 r10 v11 v12 v13).sl) (e := .normal) (t := J1_0 l8 r9 r10 v11 v12 v13 true) (l := [])
          (hs := [hA, hA, .skip, .g (.env 14 (C.v (vB false))), hA, .call ⟨[.ro, .ro], 9, [], true, [], (vB r15), [], 1⟩, hA, .skip, .skip, .g (.env 20 (C.v (vB false))), hA, .call ⟨[.ro, .ro], 9, [], true, [], (vB r18), [], 1⟩, hA, .skip, .skip, .g (.env 26 (C.v (vB true)))])
          (ps := [C.v (vB (sEq r9 ByteArray.empty)) = C.v (vB false), CallOK Try.prog 78 [.ro (vT r9), .ro (vI .i64 6)] [] (vB r15), C.v (vB (!r15)) = C.v (vB false), CallOK Try.prog 78 [.ro (vT r10), .ro (vI .i64 6)] [] (vB r18), C.v (vB (!r18)) = C.v (vB true), ((vS eT174 l8) : V) = (vS eT174 l8), ((vS eT174 v11) : V) = (vS eT174 v11), (v12 : Int) = v12, (v13 : Int) = v13, (true : Bool) = true])
          (by kernel_rfl) ⟨vbB h14, F78.fn_c fuel r9 6 _ h16, vbB h17, F78.fn_c fuel r10 6 _ h19, vbB h20, rfl, rfl, rfl, rfl, rfl, trivial⟩ (fun st hl => ⟨rfl, hl⟩)
      · 
        obtain ⟨r21, h22, h⟩ := bind_cases h
        obtain rfl := Option.some.inj h
        exact runAt_S (Q := Q1 l8 r9 r10 v11 v12 v13 _) (n := 100000) (c := (.code B1)) (K := []) (s := (I1 l8 r9 r10 v11 v12 v13).sl) (e := .normal) (t := J1_0 l8 r9 r10 v11 v12 v13 (!r21)) (l := [])
          (hs := [hA, hA, .skip, .g (.env 14 (C.v (vB false))), hA, .call ⟨[.ro, .ro], 9, [], true, [], (vB r15), [], 1⟩, hA, .skip, .skip, .g (.env 20 (C.v (vB false))), hA, .call ⟨[.ro, .ro], 9, [], true, [], (vB r18), [], 1⟩, hA, .skip, .skip, .g (.env 26 (C.v (vB false))), hA, hA, .call ⟨[.ro, .ro], 9, [], true, [], (vB r21), [], 1⟩, hA])
          (ps := [C.v (vB (sEq r9 ByteArray.empty)) = C.v (vB false), CallOK Try.prog 78 [.ro (vT r9), .ro (vI .i64 6)] [] (vB r15), C.v (vB (!r15)) = C.v (vB false), CallOK Try.prog 78 [.ro (vT r10), .ro (vI .i64 6)] [] (vB r18), C.v (vB (!r18)) = C.v (vB false), CallOK Try.prog 139 [.ro (vT r10), .ro (vT r9)] [] (vB r21), ((vS eT174 l8) : V) = (vS eT174 l8), ((vS eT174 v11) : V) = (vS eT174 v11), (v12 : Int) = v12, (v13 : Int) = v13, (!r21 : Bool) = (!r21)])
          (by kernel_rfl) ⟨vbB h14, F78.fn_c fuel r9 6 _ h16, vbB h17, F78.fn_c fuel r10 6 _ h19, vbB h20, F139.fn_c fuel r10 r9 _ h22, rfl, rfl, rfl, rfl, rfl, trivial⟩ (fun st hl => ⟨rfl, hl⟩)
def I0 (l1 : List T174) (v2 : List T174) (v3 : Int) (v4 : Int) : TL := ⟨38, [C.dead], [(0, C.v (vS eT174 l1)), (5, C.v (vS eT174 v2)), (6, C.v (vI .i64 v3)), (7, C.v (vI .i64 v4))], [], []⟩
def J0_0 (l1 : List T174) (v2 : List T174) (v3 : Int) (o : Unit) : TL := ⟨38, [C.dead], [(2, C.v (vB false))], [], []⟩
def J0_1 (l1 : List T174) (v2 : List T174) (v3 : Int) (o : Unit) : TL := ⟨38, [C.dead], [(0, C.v (vS eT174 l1))], [], []⟩
def Q0 (l1 : List T174) (v2 : List T174) (v3 : Int) (r : Unit ⊕ Unit) (e : Exit) (st : St) : Prop := (Sum.elim (fun o => e = .ret ∧ Le st (J0_0 l1 v2 v3 o).sl.st) (fun o => e = (.exit 0) ∧ Le st (J0_1 l1 v2 v3 o).sl.st)) r
def p0 (fuel : Nat) (l1 : List T174) (v2 : List T174) (v3 : Int) : Nat → Int → Option (Unit ⊕ Unit)
  | 0, _ => none
  | n + 1, v4 =>
    cond (decide (v4 < v3))
    ((idx v4 v2.length).bind fun j6 =>
      (p1 fuel l1 ((v2.getD j6 (default : T174)).f0) ((v2.getD j6 (default : T174)).f1) v2 v3 v4).bind fun r23 =>
      cond (r23)
      (some (.inl ()))
      (p0 fuel l1 v2 v3 n (w64 (v4 + 1))))
    (some (.inr ()))
theorem p0_c (fuel : Nat) (l1 : List T174) (v2 : List T174) (v3 : Int) (n : Nat) (v4 : Int) (r : Unit ⊕ Unit) (h : p0 fuel l1 v2 v3 n v4 = some r) : TW Try.prog (.loop L0) (I0 l1 v2 v3 v4).sl.st (Q0 l1 v2 v3 r) := by
  refine loop_run (σ := Int) (fun x => I0 l1 v2 v3 x) (fun n x => p0 fuel l1 v2 v3 n x) (Q0 l1 v2 v3) ?_ (fun _ => rfl) (x := v4) h
  clear h
  rintro n v4 r h
  replace h : p0 fuel l1 v2 v3 (n + 1) v4 = some r := h
  rw [p0] at h
  rcases cond_cases h with ⟨h5, h⟩ | ⟨h5, h⟩
  · 
    obtain ⟨j6, h7, h⟩ := bind_cases h
    obtain ⟨r23, h24, h⟩ := bind_cases h
    refine runTo_S (n := 13) (c := (.code L0)) (K := []) (s := (I0 l1 v2 v3 v4).sl) (b := (.code B1)) (K1 := K1) (t := I1 l1 ((v2.getD j6 (default : T174)).f0) ((v2.getD j6 (default : T174)).f1) v2 v3 v4) (l := [(0, 0)])
      (hs := [hA, .g (.env 8 (C.v (vB true))), .h (.idv j6 (eT174.f (v2.getD j6 (default : T174)) ++ (cs eT174 (v2.drop (j6 + 1))))), hA, .h (.new 0), hA])
      (ps := [C.v (vB (decide (v4 < v3))) = C.v (vB true), v4 = (j6 : Int), j6 < v2.length, (cs eT174 v2).drop (j6 * 2) = (eT174.f (v2.getD j6 (default : T174)) ++ (cs eT174 (v2.drop (j6 + 1)))), cs eT174 v2 ≠ [], ((vS eT174 l1) : V) = (vS eT174 l1), 0 = 0, ((vS eT174 v2) : V) = (vS eT174 v2), (v3 : Int) = v3, (v4 : Int) = v4, Value.string ((v2.getD j6 (default : T174)).f0) = Value.string ((v2.getD j6 (default : T174)).f0), Value.string ((v2.getD j6 (default : T174)).f1) = Value.string ((v2.getD j6 (default : T174)).f1)])
      (by kernel_rfl) ⟨vbB h5, (idx_S h7).1, (idx_S h7).2, cs_from (e := eT174) (d := (default : T174)) (idx_S h7).2, cs_ne (e := eT174) (idx_S h7).2 (by decide), rfl, rfl, rfl, rfl, rfl, rfl, rfl, trivial⟩ (cut_code ?_)
    refine TW.mono_le (p1_c fuel l1 ((v2.getD j6 (default : T174)).f0) ((v2.getD j6 (default : T174)).f1) v2 v3 v4 _ h24) ?_
    rintro e st hq
    obtain ⟨rfl, hl⟩ := hq
    refine ⟨_, hl, ?_⟩
    rcases cond_cases h with ⟨h25, h⟩ | ⟨h25, h⟩
    · 
      obtain rfl := Option.some.inj h
      exact runAt_S (Q := Round _ (n + 1) _) (n := 100000) (c := (.out .normal)) (K := K1) (s := (J1_0 l1 ((v2.getD j6 (default : T174)).f0) ((v2.getD j6 (default : T174)).f1) v2 v3 v4 r23).sl) (e := .ret) (t := J0_0 l1 v2 v3 ()) (l := [])
        (hs := [.g (.env 33 (C.v (vB true)))])
        (ps := [C.v (vB r23) = C.v (vB true), (false : Bool) = false])
        (by kernel_rfl) ⟨vbB h25, rfl, trivial⟩ (fun st hl => ⟨rfl, hl⟩)
    · 
      exact runAt_S (Q := Round _ (n + 1) _) (n := 100000) (c := (.out .normal)) (K := K1) (s := (J1_0 l1 ((v2.getD j6 (default : T174)).f0) ((v2.getD j6 (default : T174)).f1) v2 v3 v4 r23).sl) (e := .normal) (t := I0 l1 v2 v3 (w64 (v4 + 1))) (l := [])
        (hs := [.g (.env 33 (C.v (vB false))), hA])
        (ps := [C.v (vB r23) = C.v (vB false), ((vS eT174 l1) : V) = (vS eT174 l1), ((vS eT174 v2) : V) = (vS eT174 v2), (v3 : Int) = v3, (w64 (v4 + 1) : Int) = (w64 (v4 + 1))])
        (by kernel_rfl) ⟨vbB h25, rfl, rfl, rfl, rfl, trivial⟩ (fun st hl => ⟨n, _, Nat.lt_succ_self n, hl, w64 (v4 + 1), rfl, rfl, h⟩)
  · 
    obtain rfl := Option.some.inj h
    exact runAt_S (Q := Round _ (n + 1) _) (n := 100000) (c := (.code L0)) (K := []) (s := (I0 l1 v2 v3 v4).sl) (e := (.exit 0)) (t := J0_1 l1 v2 v3 ()) (l := [])
      (hs := [hA, .g (.env 8 (C.v (vB false)))])
      (ps := [C.v (vB (decide (v4 < v3))) = C.v (vB false), ((vS eT174 l1) : V) = (vS eT174 l1)])
      (by kernel_rfl) ⟨vbB h5, rfl, trivial⟩ (fun st hl => ⟨rfl, hl⟩)
def fn (fuel : Nat) (l0 : List T174) : Option Bool :=
  (p0 fuel l0 l0 (l0.length : Int) fuel (0 : Int)).bind fun r26 =>
  (Sum.elim (fun y28 => some false)
  (fun y29 => some (decide ((l0.length : Int) ≤ 8)))) r26
theorem ent : enterable Try.prog 77 = true := by kernel_rfl
theorem fn_c (fuel : Nat) (l0 : List T174) (r : Bool) (h : fn fuel l0 = some r) : CallOK Try.prog 77 [.ro (vS eT174 l0)] [] (vB r) := by
  refine contract_run Try.func77 (b := bod Try.f77) rfl ent ?_
  unfold fn at h
  obtain ⟨r26, h27, h⟩ := bind_cases h
  refine runTo_S (n := 100000) (c := (.code (bod Try.f77))) (K := []) (b := (.code (.loop L0))) (K1 := K0) (t := I0 l0 l0 (l0.length : Int) (0 : Int)) (l := [])
    (hs := [hA])
    (ps := [((vS eT174 l0) : V) = (vS eT174 l0), ((vS eT174 l0) : V) = (vS eT174 l0), ((l0.length : Int) : Int) = (l0.length : Int), (0 : Int) = (0 : Int)])
    (by kernel_rfl) ⟨rfl, rfl, rfl, rfl, trivial⟩ (cut_code ?_)
  refine TW.mono_le (p0_c fuel l0 l0 (l0.length : Int) fuel (0 : Int) _ h27) ?_
  rcases r26 with y28 | y29
  · 
    replace h := sum_l h
    rintro e st hq
    obtain ⟨rfl, hl⟩ := hq
    refine ⟨_, hl, ?_⟩
    obtain rfl := Option.some.inj h
    exact runRet_S (r := ⟨Try.f77.results.toList, _, _, _, [], 9⟩) (n := 100000) (c := (.out .ret)) (K := K0) (s := (J0_0 l0 l0 (l0.length : Int) y28).sl)
      (hs := [])
      (ps := [(false : Bool) = false])
      (by kernel_rfl) ⟨rfl, trivial⟩ rfl (fun _ _ h => h)
  · 
    replace h := sum_r h
    rintro e st hq
    obtain ⟨rfl, hl⟩ := hq
    refine ⟨_, hl, ?_⟩
    obtain rfl := Option.some.inj h
    exact runRet_S (r := ⟨Try.f77.results.toList, _, _, _, [], 9⟩) (n := 100000) (c := (.out (.exit 0))) (K := K0) (s := (J0_1 l0 l0 (l0.length : Int) y29).sl)
      (hs := [hA, hA])
      (ps := [(decide ((l0.length : Int) ≤ 8) : Bool) = (decide ((l0.length : Int) ≤ 8))])
      (by kernel_rfl) ⟨rfl, trivial⟩ rfl (fun _ _ h => h)
end F77
namespace F208
/-! spec.l15At -/
def fn (fuel : Nat) (s0 : ByteArray) (t1 : ByteArray) (at2 : Int) : Option Bool :=
  cond (decide (w64 (at2 + (t1.size : Int)) ≤ (s0.size : Int)))
  ((toN at2).bind fun n2 =>
    (toN (w64 (at2 + (t1.size : Int)))).bind fun n4 =>
    (chk (n2 ≤ n4)).bind fun _ =>
    (chk (n4 ≤ s0.size)).bind fun _ =>
    some (sEq (s0.extract n2 n4) t1))
  (some false)
theorem ent : enterable Try.prog 208 = true := by kernel_rfl
theorem fn_c (fuel : Nat) (s0 : ByteArray) (t1 : ByteArray) (at2 : Int) (r : Bool) (h : fn fuel s0 t1 at2 = some r) : CallOK Try.prog 208 [.ro (vT s0), .ro (vT t1), .ro (vI .i64 at2)] [] (vB r) := by
  refine contract_run Try.func208 (b := bod Try.f208) rfl ent ?_
  unfold fn at h
  rcases cond_cases h with ⟨h1, h⟩ | ⟨h1, h⟩
  · 
    obtain ⟨n2, h3, h⟩ := bind_cases h
    obtain ⟨n4, h5, h⟩ := bind_cases h
    obtain ⟨_, h6, h⟩ := bind_cases h
    obtain ⟨_, h7, h⟩ := bind_cases h
    obtain rfl := Option.some.inj h
    exact runRet_S (r := ⟨Try.f208.results.toList, _, _, _, [], 9⟩) (n := 100000) (c := (.code (bod Try.f208))) (K := [])
      (hs := [.h .sa, hA, .h .sa, hA, .skip, .g (.env 14 (C.v (vB true))), .h .sa, hA, .h (.ss n2 n4), hA])
      (ps := [C.v (vB (decide (w64 (at2 + (t1.size : Int)) ≤ (s0.size : Int)))) = C.v (vB true), (at2 : Int) = ((n2 : Nat) : Int), (w64 (at2 + (t1.size : Int)) : Int) = ((n4 : Nat) : Int), n2 ≤ n4, n4 ≤ s0.size, (sEq (s0.extract n2 n4) t1 : Bool) = (sEq (s0.extract n2 n4) t1)])
      (by kernel_rfl) ⟨vbB h1, (toN_S h3), (toN_S h5), (chk_S h6), (chk_S h7), rfl, trivial⟩ rfl (fun _ _ h => h)
  · 
    obtain rfl := Option.some.inj h
    exact runRet_S (r := ⟨Try.f208.results.toList, _, _, _, [], 9⟩) (n := 100000) (c := (.code (bod Try.f208))) (K := [])
      (hs := [.h .sa, hA, .h .sa, hA, .skip, .g (.env 14 (C.v (vB false)))])
      (ps := [C.v (vB (decide (w64 (at2 + (t1.size : Int)) ≤ (s0.size : Int)))) = C.v (vB false), (false : Bool) = false])
      (by kernel_rfl) ⟨vbB h1, rfl, trivial⟩ rfl (fun _ _ h => h)
end F208
namespace F140
/-! spec.l15Once -/
noncomputable def K0 := (subC [1, 1, 0, 1, 0] (bod Try.f140) []).2
noncomputable def L0 := (subC [1, 1, 0, 1, 0, 0] (bod Try.f140) []).1
noncomputable def K1 := (subC [1, 1, 0, 0, 1, 1, 0] L0 []).2
noncomputable def L1 := (subC [1, 1, 0, 0, 1, 1, 0, 0] L0 []).1
def I1 (s9 : ByteArray) (out10 : List ByteArray) (r11 : ByteArray) (r12 : ByteArray) (at13 : Int) (v14 : List T174) (v15 : Int) (v16 : Int) : TL := ⟨45, [C.dead, C.dead], [(1, C.v (vT s9)), (5, C.sr 0 0 1 out10.length), (7, C.pr 1 0), (8, C.v (vI .i64 at13)), (9, C.v (vS eT174 v14)), (10, C.v (vI .i64 v15)), (11, C.v (vI .i64 v16))], [(0, (cs eT out10))], [(1, [C.own (vT r11), C.own (vT r12)])]⟩
def J1_0 (s9 : ByteArray) (r11 : ByteArray) (r12 : ByteArray) (v14 : List T174) (v15 : Int) (v16 : Int) (o : (List ByteArray)) : TL := ⟨45, [C.dead, C.dead], [(1, C.v (vT s9)), (5, C.sr 0 0 1 o.length), (9, C.v (vS eT174 v14)), (10, C.v (vI .i64 v15)), (11, C.v (vI .i64 v16))], [(0, (cs eT o))], []⟩
def Q1 (s9 : ByteArray) (r11 : ByteArray) (r12 : ByteArray) (v14 : List T174) (v15 : Int) (v16 : Int) (r : (List ByteArray)) (e : Exit) (st : St) : Prop := (fun o => e = (.exit 2) ∧ Le st (J1_0 s9 r11 r12 v14 v15 v16 o).sl.st) r
def p1 (fuel : Nat) (s9 : ByteArray) (r11 : ByteArray) (r12 : ByteArray) (v14 : List T174) (v15 : Int) (v16 : Int) : Nat → (List ByteArray) → Int → Option (List ByteArray)
  | 0, _, _ => none
  | n + 1, out10, at13 =>
    cond (decide (at13 < (s9.size : Int)))
    ((F208.fn fuel s9 r11 at13).bind fun r18 =>
      cond (r18)
      ((toN at13).bind fun n21 =>
        (chk (n21 ≤ s9.size)).bind fun _ =>
        (chk ((s9.extract 0 n21).size + r12.size ≤ 9223372036854775807)).bind fun _ =>
        (toN (w64 (at13 + (r11.size : Int)))).bind fun n25 =>
        (chk (n25 ≤ s9.size)).bind fun _ =>
        (chk (((s9.extract 0 n21) ++ r12).size + (s9.extract n25 s9.size).size ≤ 9223372036854775807)).bind fun _ =>
        (chk ((out10.length + 1) * 16 ≤ 140737488355328)).bind fun _ =>
        p1 fuel s9 r11 r12 v14 v15 v16 n (out10 ++ ([((s9.extract 0 n21) ++ r12) ++ (s9.extract n25 s9.size)] : List ByteArray)) (w64 (at13 + 1)))
      (p1 fuel s9 r11 r12 v14 v15 v16 n out10 (w64 (at13 + 1))))
    (some out10)
theorem p1_c (fuel : Nat) (s9 : ByteArray) (r11 : ByteArray) (r12 : ByteArray) (v14 : List T174) (v15 : Int) (v16 : Int) (n : Nat) (out10 : List ByteArray) (at13 : Int) (r : (List ByteArray)) (h : p1 fuel s9 r11 r12 v14 v15 v16 n out10 at13 = some r) : TW Try.prog (.loop L1) (I1 s9 out10 r11 r12 at13 v14 v15 v16).sl.st (Q1 s9 r11 r12 v14 v15 v16 r) := by
  refine loop_run (σ := (List ByteArray) × Int) (fun x => I1 s9 x.1 r11 r12 x.2 v14 v15 v16) (fun n x => p1 fuel s9 r11 r12 v14 v15 v16 n x.1 x.2) (Q1 s9 r11 r12 v14 v15 v16) ?_ (fun _ => rfl) (x := (out10, at13)) h
  clear h
  rintro n ⟨out10, at13⟩ r h
  replace h : p1 fuel s9 r11 r12 v14 v15 v16 (n + 1) out10 at13 = some r := h
  rw [p1] at h
  rcases cond_cases h with ⟨h17, h⟩ | ⟨h17, h⟩
  · 
    obtain ⟨r18, h19, h⟩ := bind_cases h
    rcases cond_cases h with ⟨h20, h⟩ | ⟨h20, h⟩
    · 
      obtain ⟨n21, h22, h⟩ := bind_cases h
      obtain ⟨_, h23, h⟩ := bind_cases h
      obtain ⟨_, h24, h⟩ := bind_cases h
      obtain ⟨n25, h26, h⟩ := bind_cases h
      obtain ⟨_, h27, h⟩ := bind_cases h
      obtain ⟨_, h28, h⟩ := bind_cases h
      obtain ⟨_, h29, h⟩ := bind_cases h
      exact runAt_S (Q := Round _ (n + 1) _) (n := 100000) (c := (.code L1)) (K := []) (s := (I1 s9 out10 r11 r12 at13 v14 v15 v16).sl) (e := .normal) (t := I1 s9 (out10 ++ ([((s9.extract 0 n21) ++ r12) ++ (s9.extract n25 s9.size)] : List ByteArray)) r11 r12 (w64 (at13 + 1)) v14 v15 v16) (l := [(0, 3), (1, 1)])
        (hs := [.h .sa, hA, .g (.env 18 (C.v (vB true))), hA, .call ⟨[.ro, .ro, .ro], 9, [], true, [], (vB r18), [], 2⟩, .g (.env 25 (C.v (vB true))), .any [[], [], [], [], [], [], [], [], [], [], [], [], [], [], [], [2], [0, 3], []], .h (.ss 0 n21), hA, .h .sa, hA, .h .sa, hA, .h (.ss n25 s9.size), .h .sa, .h (.new 2), .h (.app 3 (own (cs eT (out10 ++ ([((s9.extract 0 n21) ++ r12) ++ (s9.extract n25 s9.size)] : List ByteArray))))), hA])
        (ps := [C.v (vB (decide (at13 < (s9.size : Int)))) = C.v (vB true), CallOK Try.prog 208 [.ro (vT s9), .ro (vT r11), .ro (vI .i64 at13)] [] (vB r18), C.v (vB r18) = C.v (vB true), (0 : Int) = ((0 : Nat) : Int), (at13 : Int) = ((n21 : Nat) : Int), 0 ≤ n21, n21 ≤ s9.size, (s9.extract 0 n21).size + r12.size ≤ 9223372036854775807, (w64 (at13 + (r11.size : Int)) : Int) = ((n25 : Nat) : Int), (s9.size : Int) = ((s9.size : Nat) : Int), n25 ≤ s9.size, s9.size ≤ s9.size, ((s9.extract 0 n21) ++ r12).size + (s9.extract n25 s9.size).size ≤ 9223372036854775807, 0 + out10.length * 1 ≤ (own (cs eT out10)).length, (out10.length + 1) * 16 ≤ 140737488355328, ((own (cs eT out10)).drop 0).take (out10.length * 1) ++ [C.own (vT (((s9.extract 0 n21) ++ r12) ++ (s9.extract n25 s9.size)))] = (own (cs eT (out10 ++ ([((s9.extract 0 n21) ++ r12) ++ (s9.extract n25 s9.size)] : List ByteArray)))), Value.string s9 = Value.string s9, 0 = 0, out10.length + 1 = (out10 ++ ([((s9.extract 0 n21) ++ r12) ++ (s9.extract n25 s9.size)] : List ByteArray)).length, 0 = 0, (w64 (at13 + 1) : Int) = (w64 (at13 + 1)), ((vS eT174 v14) : V) = (vS eT174 v14), (v15 : Int) = v15, (v16 : Int) = v16, (own (cs eT (out10 ++ ([((s9.extract 0 n21) ++ r12) ++ (s9.extract n25 s9.size)] : List ByteArray)))) = (cs eT (out10 ++ ([((s9.extract 0 n21) ++ r12) ++ (s9.extract n25 s9.size)] : List ByteArray))).map C.own, Value.string r11 = Value.string r11, Value.string r12 = Value.string r12])
        (by kernel_rfl) ⟨vbB h17, F208.fn_c fuel s9 r11 at13 _ h19, vbB h20, rfl, (toN_S h22), (Nat.zero_le _), (chk_S h23), (chk_S h24), (toN_S h26), rfl, (chk_S h27), (Nat.le_refl _), (chk_S h28), own_len (e := eT) (rfl), (chk_S h29), own_app (e := eT) (rfl) rfl, rfl, rfl, app_ln (rfl) (rfl), rfl, rfl, rfl, rfl, rfl, rfl, rfl, rfl, trivial⟩ (fun st hl => ⟨n, _, Nat.lt_succ_self n, hl, (out10 ++ ([((s9.extract 0 n21) ++ r12) ++ (s9.extract n25 s9.size)] : List ByteArray), w64 (at13 + 1)), rfl, rfl, h⟩)
    · 
      exact runAt_S (Q := Round _ (n + 1) _) (n := 100000) (c := (.code L1)) (K := []) (s := (I1 s9 out10 r11 r12 at13 v14 v15 v16).sl) (e := .normal) (t := I1 s9 out10 r11 r12 (w64 (at13 + 1)) v14 v15 v16) (l := [(0, 0), (1, 1)])
        (hs := [.h .sa, hA, .g (.env 18 (C.v (vB true))), hA, .call ⟨[.ro, .ro, .ro], 9, [], true, [], (vB r18), [], 2⟩, .g (.env 25 (C.v (vB false))), hA])
        (ps := [C.v (vB (decide (at13 < (s9.size : Int)))) = C.v (vB true), CallOK Try.prog 208 [.ro (vT s9), .ro (vT r11), .ro (vI .i64 at13)] [] (vB r18), C.v (vB r18) = C.v (vB false), Value.string s9 = Value.string s9, 0 = 0, out10.length = out10.length, 0 = 0, (w64 (at13 + 1) : Int) = (w64 (at13 + 1)), ((vS eT174 v14) : V) = (vS eT174 v14), (v15 : Int) = v15, (v16 : Int) = v16, (own (cs eT out10)) = (cs eT out10).map C.own, Value.string r11 = Value.string r11, Value.string r12 = Value.string r12])
        (by kernel_rfl) ⟨vbB h17, F208.fn_c fuel s9 r11 at13 _ h19, vbB h20, rfl, rfl, rfl, rfl, rfl, rfl, rfl, rfl, rfl, rfl, rfl, trivial⟩ (fun st hl => ⟨n, _, Nat.lt_succ_self n, hl, (out10, w64 (at13 + 1)), rfl, rfl, h⟩)
  · 
    obtain rfl := Option.some.inj h
    exact runAt_S (Q := Round _ (n + 1) _) (n := 100000) (c := (.code L1)) (K := []) (s := (I1 s9 out10 r11 r12 at13 v14 v15 v16).sl) (e := (.exit 2)) (t := J1_0 s9 r11 r12 v14 v15 v16 out10) (l := [(0, 0)])
      (hs := [.h .sa, hA, .g (.env 18 (C.v (vB false)))])
      (ps := [C.v (vB (decide (at13 < (s9.size : Int)))) = C.v (vB false), Value.string s9 = Value.string s9, 0 = 0, out10.length = out10.length, ((vS eT174 v14) : V) = (vS eT174 v14), (v15 : Int) = v15, (v16 : Int) = v16, (own (cs eT out10)) = (cs eT out10).map C.own])
      (by kernel_rfl) ⟨vbB h17, rfl, rfl, rfl, rfl, rfl, rfl, rfl, trivial⟩ (fun st hl => ⟨rfl, hl⟩)
def I0 (s1 : ByteArray) (out2 : List ByteArray) (v3 : List T174) (v4 : Int) (v5 : Int) : TL := ⟨45, [C.dead, C.dead], [(1, C.v (vT s1)), (5, C.sr 0 0 1 out2.length), (9, C.v (vS eT174 v3)), (10, C.v (vI .i64 v4)), (11, C.v (vI .i64 v5))], [(0, (cs eT out2))], []⟩
def J0_0 (s1 : ByteArray) (v3 : List T174) (v4 : Int) (o : (List ByteArray)) : TL := ⟨45, [C.dead, C.dead], [(5, C.sr 0 0 1 o.length)], [(0, (cs eT o))], []⟩
def Q0 (s1 : ByteArray) (v3 : List T174) (v4 : Int) (r : (List ByteArray)) (e : Exit) (st : St) : Prop := (fun o => e = (.exit 0) ∧ Le st (J0_0 s1 v3 v4 o).sl.st) r
def p0 (fuel : Nat) (s1 : ByteArray) (v3 : List T174) (v4 : Int) : Nat → (List ByteArray) → Int → Option (List ByteArray)
  | 0, _, _ => none
  | n + 1, out2, v5 =>
    cond (decide (v5 < v4))
    ((idx v5 v3.length).bind fun j7 =>
      (p1 fuel s1 ((v3.getD j7 (default : T174)).f0) ((v3.getD j7 (default : T174)).f1) v3 v4 v5 fuel out2 (0 : Int)).bind fun r30 =>
      p0 fuel s1 v3 v4 n r30 (w64 (v5 + 1)))
    (some out2)
theorem p0_c (fuel : Nat) (s1 : ByteArray) (v3 : List T174) (v4 : Int) (n : Nat) (out2 : List ByteArray) (v5 : Int) (r : (List ByteArray)) (h : p0 fuel s1 v3 v4 n out2 v5 = some r) : TW Try.prog (.loop L0) (I0 s1 out2 v3 v4 v5).sl.st (Q0 s1 v3 v4 r) := by
  refine loop_run (σ := (List ByteArray) × Int) (fun x => I0 s1 x.1 v3 v4 x.2) (fun n x => p0 fuel s1 v3 v4 n x.1 x.2) (Q0 s1 v3 v4) ?_ (fun _ => rfl) (x := (out2, v5)) h
  clear h
  rintro n ⟨out2, v5⟩ r h
  replace h : p0 fuel s1 v3 v4 (n + 1) out2 v5 = some r := h
  rw [p0] at h
  rcases cond_cases h with ⟨h6, h⟩ | ⟨h6, h⟩
  · 
    obtain ⟨j7, h8, h⟩ := bind_cases h
    obtain ⟨r30, h31, h⟩ := bind_cases h
    refine runTo_S (n := 100000) (c := (.code L0)) (K := []) (s := (I0 s1 out2 v3 v4 v5).sl) (b := (.code (.loop L1))) (K1 := K1) (t := I1 s1 out2 ((v3.getD j7 (default : T174)).f0) ((v3.getD j7 (default : T174)).f1) (0 : Int) v3 v4 v5) (l := [(0, 0), (1, 1)])
      (hs := [hA, .g (.env 12 (C.v (vB true))), .h (.idv j7 (eT174.f (v3.getD j7 (default : T174)) ++ (cs eT174 (v3.drop (j7 + 1))))), hA, .h (.new 1), hA])
      (ps := [C.v (vB (decide (v5 < v4))) = C.v (vB true), v5 = (j7 : Int), j7 < v3.length, (cs eT174 v3).drop (j7 * 2) = (eT174.f (v3.getD j7 (default : T174)) ++ (cs eT174 (v3.drop (j7 + 1)))), cs eT174 v3 ≠ [], Value.string s1 = Value.string s1, 0 = 0, out2.length = out2.length, 0 = 0, (0 : Int) = (0 : Int), ((vS eT174 v3) : V) = (vS eT174 v3), (v4 : Int) = v4, (v5 : Int) = v5, (own (cs eT out2)) = (cs eT out2).map C.own, Value.string ((v3.getD j7 (default : T174)).f0) = Value.string ((v3.getD j7 (default : T174)).f0), Value.string ((v3.getD j7 (default : T174)).f1) = Value.string ((v3.getD j7 (default : T174)).f1)])
      (by kernel_rfl) ⟨vbB h6, (idx_S h8).1, (idx_S h8).2, cs_from (e := eT174) (d := (default : T174)) (idx_S h8).2, cs_ne (e := eT174) (idx_S h8).2 (by decide), rfl, rfl, rfl, rfl, rfl, rfl, rfl, rfl, rfl, rfl, rfl, trivial⟩ (cut_code ?_)
    refine TW.mono_le (p1_c fuel s1 ((v3.getD j7 (default : T174)).f0) ((v3.getD j7 (default : T174)).f1) v3 v4 v5 fuel out2 (0 : Int) _ h31) ?_
    rintro e st hq
    obtain ⟨rfl, hl⟩ := hq
    refine ⟨_, hl, ?_⟩
    exact runAt_S (Q := Round _ (n + 1) _) (n := 100000) (c := (.out (.exit 2))) (K := K1) (s := (J1_0 s1 ((v3.getD j7 (default : T174)).f0) ((v3.getD j7 (default : T174)).f1) v3 v4 v5 r30).sl) (e := .normal) (t := I0 s1 r30 v3 v4 (w64 (v5 + 1))) (l := [(0, 0)])
      (hs := [hA])
      (ps := [Value.string s1 = Value.string s1, 0 = 0, r30.length = r30.length, ((vS eT174 v3) : V) = (vS eT174 v3), (v4 : Int) = v4, (w64 (v5 + 1) : Int) = (w64 (v5 + 1)), (own (cs eT r30)) = (cs eT r30).map C.own])
      (by kernel_rfl) ⟨rfl, rfl, rfl, rfl, rfl, rfl, rfl, trivial⟩ (fun st hl => ⟨n, _, Nat.lt_succ_self n, hl, (r30, w64 (v5 + 1)), rfl, rfl, h⟩)
  · 
    obtain rfl := Option.some.inj h
    exact runAt_S (Q := Round _ (n + 1) _) (n := 100000) (c := (.code L0)) (K := []) (s := (I0 s1 out2 v3 v4 v5).sl) (e := (.exit 0)) (t := J0_0 s1 v3 v4 out2) (l := [(0, 0)])
      (hs := [hA, .g (.env 12 (C.v (vB false)))])
      (ps := [C.v (vB (decide (v5 < v4))) = C.v (vB false), 0 = 0, out2.length = out2.length, (own (cs eT out2)) = (cs eT out2).map C.own])
      (by kernel_rfl) ⟨vbB h6, rfl, rfl, rfl, trivial⟩ (fun st hl => ⟨rfl, hl⟩)
def fn (fuel : Nat) (l0 : List T174) (s1 : ByteArray) : Option (List ByteArray) :=
  (p0 fuel s1 l0 (l0.length : Int) fuel ([] : List ByteArray) (0 : Int)).bind fun r32 =>
  some r32
theorem ent : enterable Try.prog 140 = true := by kernel_rfl
theorem fn_c (fuel : Nat) (l0 : List T174) (s1 : ByteArray) (r : (List ByteArray)) (h : fn fuel l0 s1 = some r) : CallOK Try.prog 140 [.ro (vS eT174 l0), .ro (vT s1)] [] (vS eT r) := by
  refine contract_run Try.func140 (b := bod Try.f140) rfl ent ?_
  unfold fn at h
  obtain ⟨r32, h33, h⟩ := bind_cases h
  refine runTo_S (n := 100000) (c := (.code (bod Try.f140))) (K := []) (b := (.code (.loop L0))) (K1 := K0) (t := I0 s1 ([] : List ByteArray) l0 (l0.length : Int) (0 : Int)) (l := [(0, 0)])
    (hs := [hA, .skip, .g (.nilE 5 0 1)])
    (ps := [Value.string s1 = Value.string s1, 0 = 0, 0 = ([] : List ByteArray).length, ((vS eT174 l0) : V) = (vS eT174 l0), ((l0.length : Int) : Int) = (l0.length : Int), (0 : Int) = (0 : Int), (own (cs eT ([] : List ByteArray))) = (cs eT ([] : List ByteArray)).map C.own])
    (by kernel_rfl) ⟨rfl, rfl, rfl, rfl, rfl, rfl, rfl, trivial⟩ (cut_code ?_)
  refine TW.mono_le (p0_c fuel s1 l0 (l0.length : Int) fuel ([] : List ByteArray) (0 : Int) _ h33) ?_
  rintro e st hq
  obtain ⟨rfl, hl⟩ := hq
  refine ⟨_, hl, ?_⟩
  obtain rfl := Option.some.inj h
  exact runRet_S (r := ⟨Try.f140.results.toList, _, _, _, [(0, (cs eT r32), (cs eT r32))], 9⟩) (n := 100000) (c := (.out (.exit 0))) (K := K0) (s := (J0_0 s1 l0 (l0.length : Int) r32).sl)
    (hs := [])
    (ps := [(own (cs eT r32)) = (cs eT r32).map C.own, 0 + r32.length * 1 ≤ (cs eT r32).length, ((cs eT r32).drop (0)).take (r32.length * 1) = (cs eT r32), ((.sl 1 r32.length (cs eT r32)) : V) = (vS eT r32)])
    (by kernel_rfl) ⟨rfl, len_all (e := eT) (rfl), take_cs (e := eT) (rfl), rfl, trivial⟩ rfl (fun _ _ h => h)
end F140
namespace F79
/-! spec.l15Normal -/
noncomputable def K0 := (subC [1, 0, 1, 0] (bod Try.f79) []).2
noncomputable def L0 := (subC [1, 0, 1, 0, 0] (bod Try.f79) []).1
def I0 (l1 : List T174) (s2 : ByteArray) (last3 : Bool) (n4 : Int) : TL := ⟨33, [C.dead, C.dead, C.dead], [(0, C.v (vS eT174 l1)), (1, C.v (vT s2)), (2, C.v (vB last3)), (9, C.v (vI .i64 n4))], [], []⟩
def J0_0 (l1 : List T174) (last3 : Bool) (o : ByteArray × Int) : TL := ⟨33, [C.dead, C.dead, C.dead], [(6, C.v (vT o.1)), (7, C.v (vI .i64 o.2)), (8, C.v (vB true))], [], []⟩
def J0_1 (l1 : List T174) (last3 : Bool) (o : Unit) : TL := ⟨33, [C.dead, C.dead, C.dead], [], [], []⟩
def Q0 (l1 : List T174) (last3 : Bool) (r : (ByteArray × Int) ⊕ Unit) (e : Exit) (st : St) : Prop := (Sum.elim (fun o => e = .ret ∧ Le st (J0_0 l1 last3 o).sl.st) (fun o => e = (.exit 0) ∧ Le st (J0_1 l1 last3 o).sl.st)) r
def p0 (fuel : Nat) (l1 : List T174) (last3 : Bool) : Nat → ByteArray → Int → Option ((ByteArray × Int) ⊕ Unit)
  | 0, _, _ => none
  | n + 1, s2, n4 =>
    cond (decide (n4 ≤ 400))
    ((F140.fn fuel l1 s2).bind fun r6 =>
      cond (decide ((r6.length : Int) = 0))
      (some (.inl (s2, n4)))
      ((idx 0 r6.length).bind fun j9 =>
        cond (last3)
        ((idx (w64 ((r6.length : Int) - 1)) r6.length).bind fun j12 =>
          p0 fuel l1 last3 n (r6.getD j12 ByteArray.empty) (w64 (n4 + 1)))
        (p0 fuel l1 last3 n (r6.getD j9 ByteArray.empty) (w64 (n4 + 1)))))
    (some (.inr ()))
theorem p0_c (fuel : Nat) (l1 : List T174) (last3 : Bool) (n : Nat) (s2 : ByteArray) (n4 : Int) (r : (ByteArray × Int) ⊕ Unit) (h : p0 fuel l1 last3 n s2 n4 = some r) : TW Try.prog (.loop L0) (I0 l1 s2 last3 n4).sl.st (Q0 l1 last3 r) := by
  refine loop_run (σ := ByteArray × Int) (fun x => I0 l1 x.1 last3 x.2) (fun n x => p0 fuel l1 last3 n x.1 x.2) (Q0 l1 last3) ?_ (fun _ => rfl) (x := (s2, n4)) h
  clear h
  rintro n ⟨s2, n4⟩ r h
  replace h : p0 fuel l1 last3 (n + 1) s2 n4 = some r := h
  rw [p0] at h
  rcases cond_cases h with ⟨h5, h⟩ | ⟨h5, h⟩
  · 
    obtain ⟨r6, h7, h⟩ := bind_cases h
    rcases cond_cases h with ⟨h8, h⟩ | ⟨h8, h⟩
    · 
      obtain rfl := Option.some.inj h
      exact runAt_S (Q := Round _ (n + 1) _) (n := 100000) (c := (.code L0)) (K := []) (s := (I0 l1 s2 last3 n4).sl) (e := .ret) (t := J0_0 l1 last3 (s2, n4)) (l := [])
        (hs := [hA, .g (.env 12 (C.v (vB true))), .call ⟨[.ro, .ro], 9, [], true, [], (vS eT r6), [], 0⟩, hA, hA, .g (.env 20 (C.v (vB true)))])
        (ps := [C.v (vB (decide (n4 ≤ 400))) = C.v (vB true), CallOK Try.prog 140 [.ro (vS eT174 l1), .ro (vT s2)] [] (vS eT r6), C.v (vB (decide ((r6.length : Int) = 0))) = C.v (vB true), Value.string s2 = Value.string s2, (n4 : Int) = n4, (true : Bool) = true])
        (by kernel_rfl) ⟨vbB h5, F140.fn_c fuel l1 s2 _ h7, vbB h8, rfl, rfl, rfl, trivial⟩ (fun st hl => ⟨rfl, hl⟩)
    · 
      obtain ⟨j9, h10, h⟩ := bind_cases h
      rcases cond_cases h with ⟨h11, h⟩ | ⟨h11, h⟩
      · 
        obtain ⟨j12, h13, h⟩ := bind_cases h
        exact runAt_S (Q := Round _ (n + 1) _) (n := 100000) (c := (.code L0)) (K := []) (s := (I0 l1 s2 last3 n4).sl) (e := .normal) (t := I0 l1 (r6.getD j12 ByteArray.empty) last3 (w64 (n4 + 1))) (l := [])
          (hs := [hA, .g (.env 12 (C.v (vB true))), .call ⟨[.ro, .ro], 9, [], true, [], (vS eT r6), [], 0⟩, hA, hA, .g (.env 20 (C.v (vB false))), .h (.idx j9 false), .h (.cell (C.v (vT (r6.getD j9 ByteArray.empty)))), .skip, .skip, .g (.env 26 (C.v (vB true))), hA, hA, .h (.idx j12 false), .h (.cell (C.v (vT (r6.getD j12 ByteArray.empty)))), hA])
          (ps := [C.v (vB (decide (n4 ≤ 400))) = C.v (vB true), CallOK Try.prog 140 [.ro (vS eT174 l1), .ro (vT s2)] [] (vS eT r6), C.v (vB (decide ((r6.length : Int) = 0))) = C.v (vB false), 0 = (j9 : Int), j9 < r6.length, ((own (cs eT r6))[0 + j9 * 1]?).bind readC = some (C.v (vT (r6.getD j9 ByteArray.empty))), C.v (vB last3) = C.v (vB true), w64 ((r6.length : Int) - 1) = (j12 : Int), j12 < r6.length, ((own (cs eT r6))[0 + j12 * 1]?).bind readC = some (C.v (vT (r6.getD j12 ByteArray.empty))), ((vS eT174 l1) : V) = (vS eT174 l1), Value.string (r6.getD j12 ByteArray.empty) = Value.string (r6.getD j12 ByteArray.empty), (last3 : Bool) = last3, (w64 (n4 + 1) : Int) = (w64 (n4 + 1))])
          (by kernel_rfl) ⟨vbB h5, F140.fn_c fuel l1 s2 _ h7, vbB h8, (idx_S h10).1, (idx_S h10).2, readC_at (e := eT) (k := 0) (d := ByteArray.empty) (idx_S h10).2 (by decide) rfl, vbB h11, (idx_S h13).1, (idx_S h13).2, readC_at (e := eT) (k := 0) (d := ByteArray.empty) (idx_S h13).2 (by decide) rfl, rfl, rfl, rfl, rfl, trivial⟩ (fun st hl => ⟨n, _, Nat.lt_succ_self n, hl, ((r6.getD j12 ByteArray.empty), w64 (n4 + 1)), rfl, rfl, h⟩)
      · 
        exact runAt_S (Q := Round _ (n + 1) _) (n := 100000) (c := (.code L0)) (K := []) (s := (I0 l1 s2 last3 n4).sl) (e := .normal) (t := I0 l1 (r6.getD j9 ByteArray.empty) last3 (w64 (n4 + 1))) (l := [])
          (hs := [hA, .g (.env 12 (C.v (vB true))), .call ⟨[.ro, .ro], 9, [], true, [], (vS eT r6), [], 0⟩, hA, hA, .g (.env 20 (C.v (vB false))), .h (.idx j9 false), .h (.cell (C.v (vT (r6.getD j9 ByteArray.empty)))), .skip, .skip, .g (.env 26 (C.v (vB false))), hA])
          (ps := [C.v (vB (decide (n4 ≤ 400))) = C.v (vB true), CallOK Try.prog 140 [.ro (vS eT174 l1), .ro (vT s2)] [] (vS eT r6), C.v (vB (decide ((r6.length : Int) = 0))) = C.v (vB false), 0 = (j9 : Int), j9 < r6.length, ((own (cs eT r6))[0 + j9 * 1]?).bind readC = some (C.v (vT (r6.getD j9 ByteArray.empty))), C.v (vB last3) = C.v (vB false), ((vS eT174 l1) : V) = (vS eT174 l1), Value.string (r6.getD j9 ByteArray.empty) = Value.string (r6.getD j9 ByteArray.empty), (last3 : Bool) = last3, (w64 (n4 + 1) : Int) = (w64 (n4 + 1))])
          (by kernel_rfl) ⟨vbB h5, F140.fn_c fuel l1 s2 _ h7, vbB h8, (idx_S h10).1, (idx_S h10).2, readC_at (e := eT) (k := 0) (d := ByteArray.empty) (idx_S h10).2 (by decide) rfl, vbB h11, rfl, rfl, rfl, rfl, trivial⟩ (fun st hl => ⟨n, _, Nat.lt_succ_self n, hl, ((r6.getD j9 ByteArray.empty), w64 (n4 + 1)), rfl, rfl, h⟩)
  · 
    obtain rfl := Option.some.inj h
    exact runAt_S (Q := Round _ (n + 1) _) (n := 100000) (c := (.code L0)) (K := []) (s := (I0 l1 s2 last3 n4).sl) (e := (.exit 0)) (t := J0_1 l1 last3 ()) (l := [])
      (hs := [hA, .g (.env 12 (C.v (vB false)))])
      (ps := [C.v (vB (decide (n4 ≤ 400))) = C.v (vB false)])
      (by kernel_rfl) ⟨vbB h5, trivial⟩ (fun st hl => ⟨rfl, hl⟩)
def fn (fuel : Nat) (l0 : List T174) (s1 : ByteArray) (last2 : Bool) : Option (ByteArray × Int × Bool) :=
  (p0 fuel l0 last2 fuel s1 (0 : Int)).bind fun r14 =>
  (Sum.elim (fun y16 => some (y16.1, y16.2, true))
  (fun y17 => some (ByteArray.empty, 0, false))) r14
theorem ent : enterable Try.prog 79 = true := by kernel_rfl
theorem fn_c (fuel : Nat) (l0 : List T174) (s1 : ByteArray) (last2 : Bool) (r : ByteArray × Int × Bool) (h : fn fuel l0 s1 last2 = some r) : CallOK Try.prog 79 [.ro (vS eT174 l0), .ro (vT s1), .ro (vB last2)] [] (.tp [(vT r.1), (vI .i64 r.2.1), (vB r.2.2)]) := by
  refine contract_run Try.func79 (b := bod Try.f79) rfl ent ?_
  unfold fn at h
  obtain ⟨r14, h15, h⟩ := bind_cases h
  refine runTo_S (n := 100000) (c := (.code (bod Try.f79))) (K := []) (b := (.code (.loop L0))) (K1 := K0) (t := I0 l0 s1 last2 (0 : Int)) (l := [])
    (hs := [])
    (ps := [((vS eT174 l0) : V) = (vS eT174 l0), Value.string s1 = Value.string s1, (last2 : Bool) = last2, (0 : Int) = (0 : Int)])
    (by kernel_rfl) ⟨rfl, rfl, rfl, rfl, trivial⟩ (cut_code ?_)
  refine TW.mono_le (p0_c fuel l0 last2 fuel s1 (0 : Int) _ h15) ?_
  rcases r14 with y16 | y17
  · 
    replace h := sum_l h
    rintro e st hq
    obtain ⟨rfl, hl⟩ := hq
    refine ⟨_, hl, ?_⟩
    obtain rfl := Option.some.inj h
    exact runRet_S (r := ⟨Try.f79.results.toList, _, _, _, [], 9⟩) (n := 100000) (c := (.out .ret)) (K := K0) (s := (J0_0 l0 last2 y16).sl)
      (hs := [])
      (ps := [(V.tp [(vT y16.1), (vI .i64 y16.2), (vB true)]) = V.tp [(vT y16.1), (vI .i64 y16.2), (vB true)]])
      (by kernel_rfl) ⟨rfl, trivial⟩ rfl (fun _ _ h => h)
  · 
    replace h := sum_r h
    rintro e st hq
    obtain ⟨rfl, hl⟩ := hq
    refine ⟨_, hl, ?_⟩
    obtain rfl := Option.some.inj h
    exact runRet_S (r := ⟨Try.f79.results.toList, _, _, _, [], 9⟩) (n := 100000) (c := (.out (.exit 0))) (K := K0) (s := (J0_1 l0 last2 y17).sl)
      (hs := [])
      (ps := [(V.tp [(vT ByteArray.empty), (vI .i64 0), (vB false)]) = V.tp [(vT ByteArray.empty), (vI .i64 0), (vB false)]])
      (by kernel_rfl) ⟨rfl, trivial⟩ rfl (fun _ _ h => h)
end F79
namespace F16
/-! spec.NormalOf -/
noncomputable def K0 := (subC [1, 0, 0] (bod Try.f16) []).2
noncomputable def B0 := (subC [1, 0, 0] (bod Try.f16) []).1
def I0 (l1 : List T174) (s2 : ByteArray) : TL := ⟨21, [C.dead, C.dead], [(0, C.v (vS eT174 l1)), (1, C.v (vT s2))], [], []⟩
def J0_0 (l1 : List T174) (s2 : ByteArray) (o : Bool) : TL := ⟨21, [C.dead, C.dead], [(0, C.v (vS eT174 l1)), (1, C.v (vT s2)), (14, C.v (vB o))], [], []⟩
def Q0 (l1 : List T174) (s2 : ByteArray) (r : Bool) (e : Exit) (st : St) : Prop := (fun o => e = .normal ∧ Le st (J0_0 l1 s2 o).sl.st) r
def p0 (fuel : Nat) (l1 : List T174) (s2 : ByteArray) : Option Bool :=
  (F77.fn fuel l1).bind fun r3 =>
  cond (!r3)
  (some true)
  ((F78.fn fuel s2 40).bind fun r6 =>
    some (!r6))
theorem p0_c (fuel : Nat) (l1 : List T174) (s2 : ByteArray) (r : Bool) (h : p0 fuel l1 s2 = some r) : TW Try.prog B0 (I0 l1 s2).sl.st (Q0 l1 s2 r) := by
  unfold p0 at h
  obtain ⟨r3, h4, h⟩ := bind_cases h
  rcases cond_cases h with ⟨h5, h⟩ | ⟨h5, h⟩
  · 
    obtain rfl := Option.some.inj h
    exact runAt_S (Q := Q0 l1 s2 _) (n := 100000) (c := (.code B0)) (K := []) (s := (I0 l1 s2).sl) (e := .normal) (t := J0_0 l1 s2 true) (l := [])
      (hs := [.call ⟨[.ro], 9, [], true, [], (vB r3), [], 0⟩, hA, .skip, .g (.env 10 (C.v (vB true)))])
      (ps := [CallOK Try.prog 77 [.ro (vS eT174 l1)] [] (vB r3), C.v (vB (!r3)) = C.v (vB true), ((vS eT174 l1) : V) = (vS eT174 l1), Value.string s2 = Value.string s2, (true : Bool) = true])
      (by kernel_rfl) ⟨F77.fn_c fuel l1 _ h4, vbB h5, rfl, rfl, rfl, trivial⟩ (fun st hl => ⟨rfl, hl⟩)
  · 
    obtain ⟨r6, h7, h⟩ := bind_cases h
    obtain rfl := Option.some.inj h
    exact runAt_S (Q := Q0 l1 s2 _) (n := 100000) (c := (.code B0)) (K := []) (s := (I0 l1 s2).sl) (e := .normal) (t := J0_0 l1 s2 (!r6)) (l := [])
      (hs := [.call ⟨[.ro], 9, [], true, [], (vB r3), [], 0⟩, hA, .skip, .g (.env 10 (C.v (vB false))), .call ⟨[.ro, .ro], 9, [], true, [], (vB r6), [], 0⟩, hA])
      (ps := [CallOK Try.prog 77 [.ro (vS eT174 l1)] [] (vB r3), C.v (vB (!r3)) = C.v (vB false), CallOK Try.prog 78 [.ro (vT s2), .ro (vI .i64 40)] [] (vB r6), ((vS eT174 l1) : V) = (vS eT174 l1), Value.string s2 = Value.string s2, (!r6 : Bool) = (!r6)])
      (by kernel_rfl) ⟨F77.fn_c fuel l1 _ h4, vbB h5, F78.fn_c fuel s2 40 _ h7, rfl, rfl, rfl, trivial⟩ (fun st hl => ⟨rfl, hl⟩)
def fn (fuel : Nat) (l0 : List T174) (s1 : ByteArray) : Option (ByteArray × Int × Bool) :=
  (p0 fuel l0 s1).bind fun r8 =>
  cond (r8)
  (some (ByteArray.empty, 0, false))
  ((F79.fn fuel l0 s1 false).bind fun r11 =>
    some (r11.1, r11.2.1, r11.2.2))
theorem ent : enterable Try.prog 16 = true := by kernel_rfl
theorem fn_c (fuel : Nat) (l0 : List T174) (s1 : ByteArray) (r : ByteArray × Int × Bool) (h : fn fuel l0 s1 = some r) : CallOK Try.prog 16 [.ro (vS eT174 l0), .ro (vT s1)] [] (.tp [(vT r.1), (vI .i64 r.2.1), (vB r.2.2)]) := by
  refine contract_run Try.func16 (b := bod Try.f16) rfl ent ?_
  unfold fn at h
  obtain ⟨r8, h9, h⟩ := bind_cases h
  refine runTo_S (n := 5) (c := (.code (bod Try.f16))) (K := []) (b := (.code B0)) (K1 := K0) (t := I0 l0 s1) (l := [])
    (hs := [])
    (ps := [((vS eT174 l0) : V) = (vS eT174 l0), Value.string s1 = Value.string s1])
    (by kernel_rfl) ⟨rfl, rfl, trivial⟩ (cut_code ?_)
  refine TW.mono_le (p0_c fuel l0 s1 _ h9) ?_
  rintro e st hq
  obtain ⟨rfl, hl⟩ := hq
  refine ⟨_, hl, ?_⟩
  rcases cond_cases h with ⟨h10, h⟩ | ⟨h10, h⟩
  · 
    obtain rfl := Option.some.inj h
    exact runRet_S (r := ⟨Try.f16.results.toList, _, _, _, [], 9⟩) (n := 100000) (c := (.out .normal)) (K := K0) (s := (J0_0 l0 s1 r8).sl)
      (hs := [.g (.env 14 (C.v (vB true)))])
      (ps := [C.v (vB r8) = C.v (vB true), (V.tp [(vT ByteArray.empty), (vI .i64 0), (vB false)]) = V.tp [(vT ByteArray.empty), (vI .i64 0), (vB false)]])
      (by kernel_rfl) ⟨vbB h10, rfl, trivial⟩ rfl (fun _ _ h => h)
  · 
    obtain ⟨r11, h12, h⟩ := bind_cases h
    obtain rfl := Option.some.inj h
    exact runRet_S (r := ⟨Try.f16.results.toList, _, _, _, [], 9⟩) (n := 100000) (c := (.out .normal)) (K := K0) (s := (J0_0 l0 s1 r8).sl)
      (hs := [.g (.env 14 (C.v (vB false))), .call ⟨[.ro, .ro, .ro], 9, [], true, [], (.tp [(vT r11.1), (vI .i64 r11.2.1), (vB r11.2.2)]), [], 0⟩])
      (ps := [C.v (vB r8) = C.v (vB false), CallOK Try.prog 79 [.ro (vS eT174 l0), .ro (vT s1), .ro (vB false)] [] (.tp [(vT r11.1), (vI .i64 r11.2.1), (vB r11.2.2)]), (V.tp [(vT r11.1), (vI .i64 r11.2.1), (vB r11.2.2)]) = V.tp [(vT r11.1), (vI .i64 r11.2.1), (vB r11.2.2)]])
      (by kernel_rfl) ⟨vbB h10, F79.fn_c fuel l0 s1 false _ h12, rfl, trivial⟩ rfl (fun _ _ h => h)
end F16
namespace F17
/-! impl.LastOf -/
def fn (fuel : Nat) (l0 : List T174) (s1 : ByteArray) : Option (ByteArray × Bool) :=
  (F75.fn fuel l0 s1).bind fun r1 =>
  cond (!r1)
  (some (ByteArray.empty, false))
  ((F76.fn fuel l0 s1 true).bind fun r4 =>
    some (r4.1, r4.2.2))
theorem ent : enterable Try.prog 17 = true := by kernel_rfl
theorem fn_c (fuel : Nat) (l0 : List T174) (s1 : ByteArray) (r : ByteArray × Bool) (h : fn fuel l0 s1 = some r) : CallOK Try.prog 17 [.ro (vS eT174 l0), .ro (vT s1)] [] (.tp [(vT r.1), (vB r.2)]) := by
  refine contract_run Try.func17 (b := bod Try.f17) rfl ent ?_
  unfold fn at h
  obtain ⟨r1, h2, h⟩ := bind_cases h
  rcases cond_cases h with ⟨h3, h⟩ | ⟨h3, h⟩
  · 
    obtain rfl := Option.some.inj h
    exact runRet_S (r := ⟨Try.f17.results.toList, _, _, _, [], 9⟩) (n := 100000) (c := (.code (bod Try.f17))) (K := [])
      (hs := [.call ⟨[.ro, .ro], 9, [], true, [], (vB r1), [], 0⟩, hA, .g (.env 12 (C.v (vB true)))])
      (ps := [CallOK Try.prog 75 [.ro (vS eT174 l0), .ro (vT s1)] [] (vB r1), C.v (vB (!r1)) = C.v (vB true), (V.tp [(vT ByteArray.empty), (vB false)]) = V.tp [(vT ByteArray.empty), (vB false)]])
      (by kernel_rfl) ⟨F75.fn_c fuel l0 s1 _ h2, vbB h3, rfl, trivial⟩ rfl (fun _ _ h => h)
  · 
    obtain ⟨r4, h5, h⟩ := bind_cases h
    obtain rfl := Option.some.inj h
    exact runRet_S (r := ⟨Try.f17.results.toList, _, _, _, [], 9⟩) (n := 100000) (c := (.code (bod Try.f17))) (K := [])
      (hs := [.call ⟨[.ro, .ro], 9, [], true, [], (vB r1), [], 0⟩, hA, .g (.env 12 (C.v (vB false))), .call ⟨[.ro, .ro, .ro], 9, [], true, [], (.tp [(vT r4.1), (vI .i64 r4.2.1), (vB r4.2.2)]), [], 0⟩])
      (ps := [CallOK Try.prog 75 [.ro (vS eT174 l0), .ro (vT s1)] [] (vB r1), C.v (vB (!r1)) = C.v (vB false), CallOK Try.prog 76 [.ro (vS eT174 l0), .ro (vT s1), .ro (vB true)] [] (.tp [(vT r4.1), (vI .i64 r4.2.1), (vB r4.2.2)]), (V.tp [(vT r4.1), (vB r4.2.2)]) = V.tp [(vT r4.1), (vB r4.2.2)]])
      (by kernel_rfl) ⟨F75.fn_c fuel l0 s1 _ h2, vbB h3, F76.fn_c fuel l0 s1 true _ h5, rfl, trivial⟩ rfl (fun _ _ h => h)
end F17
namespace F18
/-! spec.LastOf -/
noncomputable def K0 := (subC [1, 0, 0] (bod Try.f18) []).2
noncomputable def B0 := (subC [1, 0, 0] (bod Try.f18) []).1
def I0 (l1 : List T174) (s2 : ByteArray) : TL := ⟨26, [C.dead, C.dead], [(0, C.v (vS eT174 l1)), (1, C.v (vT s2))], [], []⟩
def J0_0 (l1 : List T174) (s2 : ByteArray) (o : Bool) : TL := ⟨26, [C.dead, C.dead], [(0, C.v (vS eT174 l1)), (1, C.v (vT s2)), (16, C.v (vB o))], [], []⟩
def Q0 (l1 : List T174) (s2 : ByteArray) (r : Bool) (e : Exit) (st : St) : Prop := (fun o => e = .normal ∧ Le st (J0_0 l1 s2 o).sl.st) r
def p0 (fuel : Nat) (l1 : List T174) (s2 : ByteArray) : Option Bool :=
  (F77.fn fuel l1).bind fun r3 =>
  cond (!r3)
  (some true)
  ((F78.fn fuel s2 40).bind fun r6 =>
    some (!r6))
theorem p0_c (fuel : Nat) (l1 : List T174) (s2 : ByteArray) (r : Bool) (h : p0 fuel l1 s2 = some r) : TW Try.prog B0 (I0 l1 s2).sl.st (Q0 l1 s2 r) := by
  unfold p0 at h
  obtain ⟨r3, h4, h⟩ := bind_cases h
  rcases cond_cases h with ⟨h5, h⟩ | ⟨h5, h⟩
  · 
    obtain rfl := Option.some.inj h
    exact runAt_S (Q := Q0 l1 s2 _) (n := 100000) (c := (.code B0)) (K := []) (s := (I0 l1 s2).sl) (e := .normal) (t := J0_0 l1 s2 true) (l := [])
      (hs := [.call ⟨[.ro], 9, [], true, [], (vB r3), [], 0⟩, hA, .skip, .g (.env 12 (C.v (vB true)))])
      (ps := [CallOK Try.prog 77 [.ro (vS eT174 l1)] [] (vB r3), C.v (vB (!r3)) = C.v (vB true), ((vS eT174 l1) : V) = (vS eT174 l1), Value.string s2 = Value.string s2, (true : Bool) = true])
      (by kernel_rfl) ⟨F77.fn_c fuel l1 _ h4, vbB h5, rfl, rfl, rfl, trivial⟩ (fun st hl => ⟨rfl, hl⟩)
  · 
    obtain ⟨r6, h7, h⟩ := bind_cases h
    obtain rfl := Option.some.inj h
    exact runAt_S (Q := Q0 l1 s2 _) (n := 100000) (c := (.code B0)) (K := []) (s := (I0 l1 s2).sl) (e := .normal) (t := J0_0 l1 s2 (!r6)) (l := [])
      (hs := [.call ⟨[.ro], 9, [], true, [], (vB r3), [], 0⟩, hA, .skip, .g (.env 12 (C.v (vB false))), .call ⟨[.ro, .ro], 9, [], true, [], (vB r6), [], 0⟩, hA])
      (ps := [CallOK Try.prog 77 [.ro (vS eT174 l1)] [] (vB r3), C.v (vB (!r3)) = C.v (vB false), CallOK Try.prog 78 [.ro (vT s2), .ro (vI .i64 40)] [] (vB r6), ((vS eT174 l1) : V) = (vS eT174 l1), Value.string s2 = Value.string s2, (!r6 : Bool) = (!r6)])
      (by kernel_rfl) ⟨F77.fn_c fuel l1 _ h4, vbB h5, F78.fn_c fuel s2 40 _ h7, rfl, rfl, rfl, trivial⟩ (fun st hl => ⟨rfl, hl⟩)
def fn (fuel : Nat) (l0 : List T174) (s1 : ByteArray) : Option (ByteArray × Bool) :=
  (p0 fuel l0 s1).bind fun r8 =>
  cond (r8)
  (some (ByteArray.empty, false))
  ((F79.fn fuel l0 s1 true).bind fun r11 =>
    some (r11.1, r11.2.2))
theorem ent : enterable Try.prog 18 = true := by kernel_rfl
theorem fn_c (fuel : Nat) (l0 : List T174) (s1 : ByteArray) (r : ByteArray × Bool) (h : fn fuel l0 s1 = some r) : CallOK Try.prog 18 [.ro (vS eT174 l0), .ro (vT s1)] [] (.tp [(vT r.1), (vB r.2)]) := by
  refine contract_run Try.func18 (b := bod Try.f18) rfl ent ?_
  unfold fn at h
  obtain ⟨r8, h9, h⟩ := bind_cases h
  refine runTo_S (n := 5) (c := (.code (bod Try.f18))) (K := []) (b := (.code B0)) (K1 := K0) (t := I0 l0 s1) (l := [])
    (hs := [])
    (ps := [((vS eT174 l0) : V) = (vS eT174 l0), Value.string s1 = Value.string s1])
    (by kernel_rfl) ⟨rfl, rfl, trivial⟩ (cut_code ?_)
  refine TW.mono_le (p0_c fuel l0 s1 _ h9) ?_
  rintro e st hq
  obtain ⟨rfl, hl⟩ := hq
  refine ⟨_, hl, ?_⟩
  rcases cond_cases h with ⟨h10, h⟩ | ⟨h10, h⟩
  · 
    obtain rfl := Option.some.inj h
    exact runRet_S (r := ⟨Try.f18.results.toList, _, _, _, [], 9⟩) (n := 100000) (c := (.out .normal)) (K := K0) (s := (J0_0 l0 s1 r8).sl)
      (hs := [.g (.env 16 (C.v (vB true)))])
      (ps := [C.v (vB r8) = C.v (vB true), (V.tp [(vT ByteArray.empty), (vB false)]) = V.tp [(vT ByteArray.empty), (vB false)]])
      (by kernel_rfl) ⟨vbB h10, rfl, trivial⟩ rfl (fun _ _ h => h)
  · 
    obtain ⟨r11, h12, h⟩ := bind_cases h
    obtain rfl := Option.some.inj h
    exact runRet_S (r := ⟨Try.f18.results.toList, _, _, _, [], 9⟩) (n := 100000) (c := (.out .normal)) (K := K0) (s := (J0_0 l0 s1 r8).sl)
      (hs := [.g (.env 16 (C.v (vB false))), .call ⟨[.ro, .ro, .ro], 9, [], true, [], (.tp [(vT r11.1), (vI .i64 r11.2.1), (vB r11.2.2)]), [], 0⟩])
      (ps := [C.v (vB r8) = C.v (vB false), CallOK Try.prog 79 [.ro (vS eT174 l0), .ro (vT s1), .ro (vB true)] [] (.tp [(vT r11.1), (vI .i64 r11.2.1), (vB r11.2.2)]), (V.tp [(vT r11.1), (vB r11.2.2)]) = V.tp [(vT r11.1), (vB r11.2.2)]])
      (by kernel_rfl) ⟨vbB h10, F79.fn_c fuel l0 s1 true _ h12, rfl, trivial⟩ rfl (fun _ _ h => h)
end F18
namespace F254
/-! internal/stringslite.HasSuffix -/
def fn (fuel : Nat) (s0 : ByteArray) (suffix1 : ByteArray) : Option Bool :=
  cond (decide ((s0.size : Int) ≥ (suffix1.size : Int)))
  ((toN (w64 ((s0.size : Int) - (suffix1.size : Int)))).bind fun n2 =>
    (chk (n2 ≤ s0.size)).bind fun _ =>
    some (sEq (s0.extract n2 s0.size) suffix1))
  (some false)
theorem ent : enterable Try.prog 254 = true := by kernel_rfl
theorem fn_c (fuel : Nat) (s0 : ByteArray) (suffix1 : ByteArray) (r : Bool) (h : fn fuel s0 suffix1 = some r) : CallOK Try.prog 254 [.ro (vT s0), .ro (vT suffix1)] [] (vB r) := by
  refine contract_run Try.func254 (b := bod Try.f254) rfl ent ?_
  unfold fn at h
  rcases cond_cases h with ⟨h1, h⟩ | ⟨h1, h⟩
  · 
    obtain ⟨n2, h3, h⟩ := bind_cases h
    obtain ⟨_, h4, h⟩ := bind_cases h
    obtain rfl := Option.some.inj h
    exact runRet_S (r := ⟨Try.f254.results.toList, _, _, _, [], 9⟩) (n := 100000) (c := (.code (bod Try.f254))) (K := [])
      (hs := [.h .sa, .h .sa, hA, .skip, .g (.env 10 (C.v (vB true))), .h .sa, .h .sa, hA, .h (.ss n2 s0.size), hA])
      (ps := [C.v (vB (decide ((s0.size : Int) ≥ (suffix1.size : Int)))) = C.v (vB true), (w64 ((s0.size : Int) - (suffix1.size : Int)) : Int) = ((n2 : Nat) : Int), (s0.size : Int) = ((s0.size : Nat) : Int), n2 ≤ s0.size, s0.size ≤ s0.size, (sEq (s0.extract n2 s0.size) suffix1 : Bool) = (sEq (s0.extract n2 s0.size) suffix1)])
      (by kernel_rfl) ⟨vbB h1, (toN_S h3), rfl, (chk_S h4), (Nat.le_refl _), rfl, trivial⟩ rfl (fun _ _ h => h)
  · 
    obtain rfl := Option.some.inj h
    exact runRet_S (r := ⟨Try.f254.results.toList, _, _, _, [], 9⟩) (n := 100000) (c := (.code (bod Try.f254))) (K := [])
      (hs := [.h .sa, .h .sa, hA, .skip, .g (.env 10 (C.v (vB false)))])
      (ps := [C.v (vB (decide ((s0.size : Int) ≥ (suffix1.size : Int)))) = C.v (vB false), (false : Bool) = false])
      (by kernel_rfl) ⟨vbB h1, rfl, trivial⟩ rfl (fun _ _ h => h)
end F254
namespace F210
/-! strings.HasSuffix -/
def fn (fuel : Nat) (s0 : ByteArray) (suffix1 : ByteArray) : Option Bool :=
  (F254.fn fuel s0 suffix1).bind fun r1 =>
  some r1
theorem ent : enterable Try.prog 210 = true := by kernel_rfl
theorem fn_c (fuel : Nat) (s0 : ByteArray) (suffix1 : ByteArray) (r : Bool) (h : fn fuel s0 suffix1 = some r) : CallOK Try.prog 210 [.ro (vT s0), .ro (vT suffix1)] [] (vB r) := by
  refine contract_run Try.func210 (b := bod Try.f210) rfl ent ?_
  unfold fn at h
  obtain ⟨r1, h2, h⟩ := bind_cases h
  obtain rfl := Option.some.inj h
  exact runRet_S (r := ⟨Try.f210.results.toList, _, _, _, [], 9⟩) (n := 100000) (c := (.code (bod Try.f210))) (K := [])
    (hs := [.call ⟨[.ro, .ro], 9, [], true, [], (vB r1), [], 0⟩])
    (ps := [CallOK Try.prog 254 [.ro (vT s0), .ro (vT suffix1)] [] (vB r1), (r1 : Bool) = r1])
    (by kernel_rfl) ⟨F254.fn_c fuel s0 suffix1 _ h2, rfl, trivial⟩ rfl (fun _ _ h => h)
end F210
namespace F143
/-! impl.overlaps -/
noncomputable def K0 := (subC [1, 1, 0, 1, 0] (bod Try.f143) []).2
noncomputable def L0 := (subC [1, 1, 0, 1, 0, 0] (bod Try.f143) []).1
noncomputable def K1 := (subC [1, 1, 1, 1, 0, 1, 0] (bod Try.f143) []).2
noncomputable def L1 := (subC [1, 1, 1, 1, 0, 1, 0, 0] (bod Try.f143) []).1
def I0 (same1 : Bool) (r2 : ByteArray) (r3 : ByteArray) (q4 : ByteArray) (q5 : ByteArray) (out6 : List (List ByteArray)) (n7 : Int) : TL := ⟨94, [C.dead, C.dead, C.dead], [(2, C.v (vB same1)), (3, C.pr 0 0), (4, C.pr 1 0), (7, C.sr 2 0 1 out6.length), (8, C.v (vI .i64 n7))], [(2, (cs (eS eT) out6))], [(0, [C.own (vT r2), C.own (vT r3)]), (1, [C.own (vT q4), C.own (vT q5)])]⟩
def J0_0 (same1 : Bool) (r2 : ByteArray) (r3 : ByteArray) (q4 : ByteArray) (q5 : ByteArray) (o : (List (List ByteArray))) : TL := ⟨94, [C.dead, C.dead, C.dead], [(2, C.v (vB same1)), (3, C.pr 0 0), (4, C.pr 1 0), (7, C.sr 2 0 1 o.length)], [(2, (cs (eS eT) o))], [(0, [C.own (vT r2), C.own (vT r3)]), (1, [C.own (vT q4), C.own (vT q5)])]⟩
def Q0 (same1 : Bool) (r2 : ByteArray) (r3 : ByteArray) (q4 : ByteArray) (q5 : ByteArray) (r : (List (List ByteArray))) (e : Exit) (st : St) : Prop := (fun o => e = (.exit 0) ∧ Le st (J0_0 same1 r2 r3 q4 q5 o).sl.st) r
def p0 (fuel : Nat) (same1 : Bool) (r2 : ByteArray) (r3 : ByteArray) (q4 : ByteArray) (q5 : ByteArray) : Nat → (List (List ByteArray)) → Int → Option (List (List ByteArray))
  | 0, _, _ => none
  | n + 1, out6, n7 =>
    cond (decide (n7 < if ((q4.size : Int) : Int) < ((r2.size : Int) : Int) then ((q4.size : Int) : Int) else ((r2.size : Int) : Int)))
    ((toN n7).bind fun n9 =>
      (chk (n9 ≤ q4.size)).bind fun _ =>
      (F210.fn fuel r2 (q4.extract 0 n9)).bind fun r12 =>
      cond (r12)
      ((chk (r3.size + (q4.extract n9 q4.size).size ≤ 9223372036854775807)).bind fun _ =>
        (toN (w64 ((r2.size : Int) - n7))).bind fun n16 =>
        (chk (n16 ≤ r2.size)).bind fun _ =>
        (chk ((r2.extract 0 n16).size + q5.size ≤ 9223372036854775807)).bind fun _ =>
        (chk ((out6.length + 1) * 24 ≤ 140737488355328)).bind fun _ =>
        p0 fuel same1 r2 r3 q4 q5 n (out6 ++ ([([r3 ++ (q4.extract n9 q4.size), (r2.extract 0 n16) ++ q5] : List ByteArray)] : List (List ByteArray))) (w64 (n7 + 1)))
      (p0 fuel same1 r2 r3 q4 q5 n out6 (w64 (n7 + 1))))
    (some out6)
theorem p0_c (fuel : Nat) (same1 : Bool) (r2 : ByteArray) (r3 : ByteArray) (q4 : ByteArray) (q5 : ByteArray) (n : Nat) (out6 : List (List ByteArray)) (n7 : Int) (r : (List (List ByteArray))) (h : p0 fuel same1 r2 r3 q4 q5 n out6 n7 = some r) : TW Try.prog (.loop L0) (I0 same1 r2 r3 q4 q5 out6 n7).sl.st (Q0 same1 r2 r3 q4 q5 r) := by
  refine loop_run (σ := (List (List ByteArray)) × Int) (fun x => I0 same1 r2 r3 q4 q5 x.1 x.2) (fun n x => p0 fuel same1 r2 r3 q4 q5 n x.1 x.2) (Q0 same1 r2 r3 q4 q5) ?_ (fun _ => rfl) (x := (out6, n7)) h
  clear h
  rintro n ⟨out6, n7⟩ r h
  replace h : p0 fuel same1 r2 r3 q4 q5 (n + 1) out6 n7 = some r := h
  rw [p0] at h
  rcases cond_cases h with ⟨h8, h⟩ | ⟨h8, h⟩
  · 
    obtain ⟨n9, h10, h⟩ := bind_cases h
    obtain ⟨_, h11, h⟩ := bind_cases h
    obtain ⟨r12, h13, h⟩ := bind_cases h
    rcases cond_cases h with ⟨h14, h⟩ | ⟨h14, h⟩
    · 
      obtain ⟨_, h15, h⟩ := bind_cases h
      obtain ⟨n16, h17, h⟩ := bind_cases h
      obtain ⟨_, h18, h⟩ := bind_cases h
      obtain ⟨_, h19, h⟩ := bind_cases h
      obtain ⟨_, h20, h⟩ := bind_cases h
      exact runAt_S (Q := Round _ (n + 1) _) (n := 100000) (c := (.code L0)) (K := []) (s := (I0 same1 r2 r3 q4 q5 out6 n7).sl) (e := .normal) (t := I0 same1 r2 r3 q4 q5 (out6 ++ ([([r3 ++ (q4.extract n9 q4.size), (r2.extract 0 n16) ++ q5] : List ByteArray)] : List (List ByteArray))) (w64 (n7 + 1))) (l := [(0, 0), (1, 1), (2, 5)])
        (hs := [hA, .h .sa, hA, .h .sa, .h .mm, hA, .g (.env 19 (C.v (vB true))), .any [[], [], [], [], [], [], []], hA, hA, .h (.ss 0 n9), .call ⟨[.ro, .ro], 9, [], true, [], (vB r12), [], 3⟩, .g (.env 28 (C.v (vB true))), .any [[], [], [], [], [], [], [], [], [], [], [], [], [], [], [], [], [], [], [], [3], [4], [2, 3, 5], []], hA, hA, .h (.ss n9 q4.size), .h .sa, hA, hA, .h .sa, hA, .h (.ss 0 n16), hA, .h .sa, .h (.new 3), .h (.new 4), .h (.apc 5 [(3, (cs eT ([r3 ++ (q4.extract n9 q4.size), (r2.extract 0 n16) ++ q5] : List ByteArray)), (cs eT ([r3 ++ (q4.extract n9 q4.size), (r2.extract 0 n16) ++ q5] : List ByteArray)))] 9 (own (cs (eS eT) (out6 ++ ([([r3 ++ (q4.extract n9 q4.size), (r2.extract 0 n16) ++ q5] : List ByteArray)] : List (List ByteArray)))))), hA])
        (ps := [C.v (vB (decide (n7 < if ((q4.size : Int) : Int) < ((r2.size : Int) : Int) then ((q4.size : Int) : Int) else ((r2.size : Int) : Int)))) = C.v (vB true), (0 : Int) = ((0 : Nat) : Int), (n7 : Int) = ((n9 : Nat) : Int), 0 ≤ n9, n9 ≤ q4.size, CallOK Try.prog 210 [.ro (vT r2), .ro (vT (q4.extract 0 n9))] [] (vB r12), C.v (vB r12) = C.v (vB true), (n7 : Int) = ((n9 : Nat) : Int), (q4.size : Int) = ((q4.size : Nat) : Int), n9 ≤ q4.size, q4.size ≤ q4.size, r3.size + (q4.extract n9 q4.size).size ≤ 9223372036854775807, (0 : Int) = ((0 : Nat) : Int), (w64 ((r2.size : Int) - n7) : Int) = ((n16 : Nat) : Int), 0 ≤ n16, n16 ≤ r2.size, (r2.extract 0 n16).size + q5.size ≤ 9223372036854775807, (own (cs eT ([r3 ++ (q4.extract n9 q4.size), (r2.extract 0 n16) ++ q5] : List ByteArray))) = (cs eT ([r3 ++ (q4.extract n9 q4.size), (r2.extract 0 n16) ++ q5] : List ByteArray)).map C.own, 0 + 2 * 1 ≤ (cs eT ([r3 ++ (q4.extract n9 q4.size), (r2.extract 0 n16) ++ q5] : List ByteArray)).length, ((cs eT ([r3 ++ (q4.extract n9 q4.size), (r2.extract 0 n16) ++ q5] : List ByteArray)).drop (0)).take (2 * 1) = (cs eT ([r3 ++ (q4.extract n9 q4.size), (r2.extract 0 n16) ++ q5] : List ByteArray)), 0 + out6.length * 1 ≤ (own (cs (eS eT) out6)).length, (out6.length + 1) * 24 ≤ 140737488355328, ((own (cs (eS eT) out6)).drop 0).take (out6.length * 1) ++ (([(.sl 1 2 (cs eT ([r3 ++ (q4.extract n9 q4.size), (r2.extract 0 n16) ++ q5] : List ByteArray)))] : List V).map C.own) = (own (cs (eS eT) (out6 ++ ([([r3 ++ (q4.extract n9 q4.size), (r2.extract 0 n16) ++ q5] : List ByteArray)] : List (List ByteArray))))), (same1 : Bool) = same1, 0 = 0, 0 = 0, 0 = 0, out6.length + 1 = (out6 ++ ([([r3 ++ (q4.extract n9 q4.size), (r2.extract 0 n16) ++ q5] : List ByteArray)] : List (List ByteArray))).length, (w64 (n7 + 1) : Int) = (w64 (n7 + 1)), (own (cs (eS eT) (out6 ++ ([([r3 ++ (q4.extract n9 q4.size), (r2.extract 0 n16) ++ q5] : List ByteArray)] : List (List ByteArray))))) = (cs (eS eT) (out6 ++ ([([r3 ++ (q4.extract n9 q4.size), (r2.extract 0 n16) ++ q5] : List ByteArray)] : List (List ByteArray)))).map C.own, Value.string r2 = Value.string r2, Value.string r3 = Value.string r3, Value.string q4 = Value.string q4, Value.string q5 = Value.string q5])
        (by kernel_rfl) ⟨vbB h8, rfl, (toN_S h10), (Nat.zero_le _), (chk_S h11), F210.fn_c fuel r2 (q4.extract 0 n9) _ h13, vbB h14, (toN_S h10), rfl, (chk_S h11), (Nat.le_refl _), (chk_S h15), rfl, (toN_S h17), (Nat.zero_le _), (chk_S h18), (chk_S h19), rfl, len_all (e := eT) (rfl), take_cs (e := eT) (rfl), own_len (e := (eS eT)) (rfl), (chk_S h20), own_app (e := (eS eT)) (rfl) rfl, rfl, rfl, rfl, rfl, app_ln (rfl) (rfl), rfl, rfl, rfl, rfl, rfl, rfl, trivial⟩ (fun st hl => ⟨n, _, Nat.lt_succ_self n, hl, (out6 ++ ([([r3 ++ (q4.extract n9 q4.size), (r2.extract 0 n16) ++ q5] : List ByteArray)] : List (List ByteArray)), w64 (n7 + 1)), rfl, rfl, h⟩)
    · 
      exact runAt_S (Q := Round _ (n + 1) _) (n := 100000) (c := (.code L0)) (K := []) (s := (I0 same1 r2 r3 q4 q5 out6 n7).sl) (e := .normal) (t := I0 same1 r2 r3 q4 q5 out6 (w64 (n7 + 1))) (l := [(0, 0), (1, 1), (2, 2)])
        (hs := [hA, .h .sa, hA, .h .sa, .h .mm, hA, .g (.env 19 (C.v (vB true))), .any [[], [], [], [], [], [], []], hA, hA, .h (.ss 0 n9), .call ⟨[.ro, .ro], 9, [], true, [], (vB r12), [], 3⟩, .g (.env 28 (C.v (vB false))), hA])
        (ps := [C.v (vB (decide (n7 < if ((q4.size : Int) : Int) < ((r2.size : Int) : Int) then ((q4.size : Int) : Int) else ((r2.size : Int) : Int)))) = C.v (vB true), (0 : Int) = ((0 : Nat) : Int), (n7 : Int) = ((n9 : Nat) : Int), 0 ≤ n9, n9 ≤ q4.size, CallOK Try.prog 210 [.ro (vT r2), .ro (vT (q4.extract 0 n9))] [] (vB r12), C.v (vB r12) = C.v (vB false), (same1 : Bool) = same1, 0 = 0, 0 = 0, 0 = 0, out6.length = out6.length, (w64 (n7 + 1) : Int) = (w64 (n7 + 1)), (own (cs (eS eT) out6)) = (cs (eS eT) out6).map C.own, Value.string r2 = Value.string r2, Value.string r3 = Value.string r3, Value.string q4 = Value.string q4, Value.string q5 = Value.string q5])
        (by kernel_rfl) ⟨vbB h8, rfl, (toN_S h10), (Nat.zero_le _), (chk_S h11), F210.fn_c fuel r2 (q4.extract 0 n9) _ h13, vbB h14, rfl, rfl, rfl, rfl, rfl, rfl, rfl, rfl, rfl, rfl, rfl, trivial⟩ (fun st hl => ⟨n, _, Nat.lt_succ_self n, hl, (out6, w64 (n7 + 1)), rfl, rfl, h⟩)
  · 
    obtain rfl := Option.some.inj h
    exact runAt_S (Q := Round _ (n + 1) _) (n := 100000) (c := (.code L0)) (K := []) (s := (I0 same1 r2 r3 q4 q5 out6 n7).sl) (e := (.exit 0)) (t := J0_0 same1 r2 r3 q4 q5 out6) (l := [(0, 0), (1, 1), (2, 2)])
      (hs := [hA, .h .sa, hA, .h .sa, .h .mm, hA, .g (.env 19 (C.v (vB false)))])
      (ps := [C.v (vB (decide (n7 < if ((q4.size : Int) : Int) < ((r2.size : Int) : Int) then ((q4.size : Int) : Int) else ((r2.size : Int) : Int)))) = C.v (vB false), (same1 : Bool) = same1, 0 = 0, 0 = 0, 0 = 0, out6.length = out6.length, (own (cs (eS eT) out6)) = (cs (eS eT) out6).map C.own, Value.string r2 = Value.string r2, Value.string r3 = Value.string r3, Value.string q4 = Value.string q4, Value.string q5 = Value.string q5])
      (by kernel_rfl) ⟨vbB h8, rfl, rfl, rfl, rfl, rfl, rfl, rfl, rfl, rfl, rfl, trivial⟩ (fun st hl => ⟨rfl, hl⟩)
def I1 (r24 : ByteArray) (r25 : ByteArray) (q26 : ByteArray) (q27 : ByteArray) (out28 : List (List ByteArray)) (i29 : Int) : TL := ⟨94, [C.dead, C.dead, C.dead], [(3, C.pr 0 0), (4, C.pr 1 0), (7, C.sr 2 0 1 out28.length), (9, C.v (vI .i64 i29))], [(2, (cs (eS eT) out28))], [(0, [C.own (vT r24), C.own (vT r25)]), (1, [C.own (vT q26), C.own (vT q27)])]⟩
def J1_0 (r24 : ByteArray) (r25 : ByteArray) (q26 : ByteArray) (q27 : ByteArray) (o : (List (List ByteArray))) : TL := ⟨94, [C.dead, C.dead, C.dead], [(7, C.sr 0 0 1 o.length)], [(0, (cs (eS eT) o))], []⟩
def Q1 (r24 : ByteArray) (r25 : ByteArray) (q26 : ByteArray) (q27 : ByteArray) (r : (List (List ByteArray))) (e : Exit) (st : St) : Prop := (fun o => e = (.exit 2) ∧ Le st (J1_0 r24 r25 q26 q27 o).sl.st) r
def p1 (fuel : Nat) (r24 : ByteArray) (r25 : ByteArray) (q26 : ByteArray) (q27 : ByteArray) : Nat → (List (List ByteArray)) → Int → Option (List (List ByteArray))
  | 0, _, _ => none
  | n + 1, out28, i29 =>
    cond (decide (w64 (i29 + (q26.size : Int)) ≤ (r24.size : Int)))
    ((toN i29).bind fun n31 =>
      (chk (n31 ≤ r24.size)).bind fun _ =>
      (F211.fn fuel (r24.extract n31 r24.size) q26).bind fun r34 =>
      cond (r34)
      ((chk ((r24.extract 0 n31).size + q27.size ≤ 9223372036854775807)).bind fun _ =>
        (toN (w64 (i29 + (q26.size : Int)))).bind fun n38 =>
        (chk (n38 ≤ r24.size)).bind fun _ =>
        (chk (((r24.extract 0 n31) ++ q27).size + (r24.extract n38 r24.size).size ≤ 9223372036854775807)).bind fun _ =>
        (chk ((out28.length + 1) * 24 ≤ 140737488355328)).bind fun _ =>
        p1 fuel r24 r25 q26 q27 n (out28 ++ ([([r25, ((r24.extract 0 n31) ++ q27) ++ (r24.extract n38 r24.size)] : List ByteArray)] : List (List ByteArray))) (w64 (i29 + 1)))
      (p1 fuel r24 r25 q26 q27 n out28 (w64 (i29 + 1))))
    (some out28)
theorem p1_c (fuel : Nat) (r24 : ByteArray) (r25 : ByteArray) (q26 : ByteArray) (q27 : ByteArray) (n : Nat) (out28 : List (List ByteArray)) (i29 : Int) (r : (List (List ByteArray))) (h : p1 fuel r24 r25 q26 q27 n out28 i29 = some r) : TW Try.prog (.loop L1) (I1 r24 r25 q26 q27 out28 i29).sl.st (Q1 r24 r25 q26 q27 r) := by
  refine loop_run (σ := (List (List ByteArray)) × Int) (fun x => I1 r24 r25 q26 q27 x.1 x.2) (fun n x => p1 fuel r24 r25 q26 q27 n x.1 x.2) (Q1 r24 r25 q26 q27) ?_ (fun _ => rfl) (x := (out28, i29)) h
  clear h
  rintro n ⟨out28, i29⟩ r h
  replace h : p1 fuel r24 r25 q26 q27 (n + 1) out28 i29 = some r := h
  rw [p1] at h
  rcases cond_cases h with ⟨h30, h⟩ | ⟨h30, h⟩
  · 
    obtain ⟨n31, h32, h⟩ := bind_cases h
    obtain ⟨_, h33, h⟩ := bind_cases h
    obtain ⟨r34, h35, h⟩ := bind_cases h
    rcases cond_cases h with ⟨h36, h⟩ | ⟨h36, h⟩
    · 
      obtain ⟨_, h37, h⟩ := bind_cases h
      obtain ⟨n38, h39, h⟩ := bind_cases h
      obtain ⟨_, h40, h⟩ := bind_cases h
      obtain ⟨_, h41, h⟩ := bind_cases h
      obtain ⟨_, h42, h⟩ := bind_cases h
      exact runAt_S (Q := Round _ (n + 1) _) (n := 100000) (c := (.code L1)) (K := []) (s := (I1 r24 r25 q26 q27 out28 i29).sl) (e := .normal) (t := I1 r24 r25 q26 q27 (out28 ++ ([([r25, ((r24.extract 0 n31) ++ q27) ++ (r24.extract n38 r24.size)] : List ByteArray)] : List (List ByteArray))) (w64 (i29 + 1))) (l := [(0, 0), (1, 1), (2, 5)])
        (hs := [hA, .h .sa, hA, hA, .h .sa, hA, .g (.env 61 (C.v (vB true))), .any [[], [], [], [], [], [], []], hA, .h (.ss n31 r24.size), hA, .call ⟨[.ro, .ro], 9, [], true, [], (vB r34), [], 3⟩, .g (.env 70 (C.v (vB true))), .any [[], [], [], [], [], [], [], [], [], [], [], [], [], [], [], [], [], [], [], [3], [4], [2, 3, 5], []], hA, hA, .h (.ss 0 n31), hA, .h .sa, hA, hA, .h .sa, hA, .h (.ss n38 r24.size), .h .sa, .h (.new 3), .h (.new 4), .h (.apc 5 [(3, (cs eT ([r25, ((r24.extract 0 n31) ++ q27) ++ (r24.extract n38 r24.size)] : List ByteArray)), (cs eT ([r25, ((r24.extract 0 n31) ++ q27) ++ (r24.extract n38 r24.size)] : List ByteArray)))] 9 (own (cs (eS eT) (out28 ++ ([([r25, ((r24.extract 0 n31) ++ q27) ++ (r24.extract n38 r24.size)] : List ByteArray)] : List (List ByteArray)))))), hA])
        (ps := [C.v (vB (decide (w64 (i29 + (q26.size : Int)) ≤ (r24.size : Int)))) = C.v (vB true), (i29 : Int) = ((n31 : Nat) : Int), (r24.size : Int) = ((r24.size : Nat) : Int), n31 ≤ r24.size, r24.size ≤ r24.size, CallOK Try.prog 211 [.ro (vT (r24.extract n31 r24.size)), .ro (vT q26)] [] (vB r34), C.v (vB r34) = C.v (vB true), (0 : Int) = ((0 : Nat) : Int), (i29 : Int) = ((n31 : Nat) : Int), 0 ≤ n31, n31 ≤ r24.size, (r24.extract 0 n31).size + q27.size ≤ 9223372036854775807, (w64 (i29 + (q26.size : Int)) : Int) = ((n38 : Nat) : Int), (r24.size : Int) = ((r24.size : Nat) : Int), n38 ≤ r24.size, r24.size ≤ r24.size, ((r24.extract 0 n31) ++ q27).size + (r24.extract n38 r24.size).size ≤ 9223372036854775807, (own (cs eT ([r25, ((r24.extract 0 n31) ++ q27) ++ (r24.extract n38 r24.size)] : List ByteArray))) = (cs eT ([r25, ((r24.extract 0 n31) ++ q27) ++ (r24.extract n38 r24.size)] : List ByteArray)).map C.own, 0 + 2 * 1 ≤ (cs eT ([r25, ((r24.extract 0 n31) ++ q27) ++ (r24.extract n38 r24.size)] : List ByteArray)).length, ((cs eT ([r25, ((r24.extract 0 n31) ++ q27) ++ (r24.extract n38 r24.size)] : List ByteArray)).drop (0)).take (2 * 1) = (cs eT ([r25, ((r24.extract 0 n31) ++ q27) ++ (r24.extract n38 r24.size)] : List ByteArray)), 0 + out28.length * 1 ≤ (own (cs (eS eT) out28)).length, (out28.length + 1) * 24 ≤ 140737488355328, ((own (cs (eS eT) out28)).drop 0).take (out28.length * 1) ++ (([(.sl 1 2 (cs eT ([r25, ((r24.extract 0 n31) ++ q27) ++ (r24.extract n38 r24.size)] : List ByteArray)))] : List V).map C.own) = (own (cs (eS eT) (out28 ++ ([([r25, ((r24.extract 0 n31) ++ q27) ++ (r24.extract n38 r24.size)] : List ByteArray)] : List (List ByteArray))))), 0 = 0, 0 = 0, 0 = 0, out28.length + 1 = (out28 ++ ([([r25, ((r24.extract 0 n31) ++ q27) ++ (r24.extract n38 r24.size)] : List ByteArray)] : List (List ByteArray))).length, (w64 (i29 + 1) : Int) = (w64 (i29 + 1)), (own (cs (eS eT) (out28 ++ ([([r25, ((r24.extract 0 n31) ++ q27) ++ (r24.extract n38 r24.size)] : List ByteArray)] : List (List ByteArray))))) = (cs (eS eT) (out28 ++ ([([r25, ((r24.extract 0 n31) ++ q27) ++ (r24.extract n38 r24.size)] : List ByteArray)] : List (List ByteArray)))).map C.own, Value.string r24 = Value.string r24, Value.string r25 = Value.string r25, Value.string q26 = Value.string q26, Value.string q27 = Value.string q27])
        (by kernel_rfl) ⟨vbB h30, (toN_S h32), rfl, (chk_S h33), (Nat.le_refl _), F211.fn_c fuel (r24.extract n31 r24.size) q26 _ h35, vbB h36, rfl, (toN_S h32), (Nat.zero_le _), (chk_S h33), (chk_S h37), (toN_S h39), rfl, (chk_S h40), (Nat.le_refl _), (chk_S h41), rfl, len_all (e := eT) (rfl), take_cs (e := eT) (rfl), own_len (e := (eS eT)) (rfl), (chk_S h42), own_app (e := (eS eT)) (rfl) rfl, rfl, rfl, rfl, app_ln (rfl) (rfl), rfl, rfl, rfl, rfl, rfl, rfl, trivial⟩ (fun st hl => ⟨n, _, Nat.lt_succ_self n, hl, (out28 ++ ([([r25, ((r24.extract 0 n31) ++ q27) ++ (r24.extract n38 r24.size)] : List ByteArray)] : List (List ByteArray)), w64 (i29 + 1)), rfl, rfl, h⟩)
    · 
      exact runAt_S (Q := Round _ (n + 1) _) (n := 100000) (c := (.code L1)) (K := []) (s := (I1 r24 r25 q26 q27 out28 i29).sl) (e := .normal) (t := I1 r24 r25 q26 q27 out28 (w64 (i29 + 1))) (l := [(0, 0), (1, 1), (2, 2)])
        (hs := [hA, .h .sa, hA, hA, .h .sa, hA, .g (.env 61 (C.v (vB true))), .any [[], [], [], [], [], [], []], hA, .h (.ss n31 r24.size), hA, .call ⟨[.ro, .ro], 9, [], true, [], (vB r34), [], 3⟩, .g (.env 70 (C.v (vB false))), hA])
        (ps := [C.v (vB (decide (w64 (i29 + (q26.size : Int)) ≤ (r24.size : Int)))) = C.v (vB true), (i29 : Int) = ((n31 : Nat) : Int), (r24.size : Int) = ((r24.size : Nat) : Int), n31 ≤ r24.size, r24.size ≤ r24.size, CallOK Try.prog 211 [.ro (vT (r24.extract n31 r24.size)), .ro (vT q26)] [] (vB r34), C.v (vB r34) = C.v (vB false), 0 = 0, 0 = 0, 0 = 0, out28.length = out28.length, (w64 (i29 + 1) : Int) = (w64 (i29 + 1)), (own (cs (eS eT) out28)) = (cs (eS eT) out28).map C.own, Value.string r24 = Value.string r24, Value.string r25 = Value.string r25, Value.string q26 = Value.string q26, Value.string q27 = Value.string q27])
        (by kernel_rfl) ⟨vbB h30, (toN_S h32), rfl, (chk_S h33), (Nat.le_refl _), F211.fn_c fuel (r24.extract n31 r24.size) q26 _ h35, vbB h36, rfl, rfl, rfl, rfl, rfl, rfl, rfl, rfl, rfl, rfl, trivial⟩ (fun st hl => ⟨n, _, Nat.lt_succ_self n, hl, (out28, w64 (i29 + 1)), rfl, rfl, h⟩)
  · 
    obtain rfl := Option.some.inj h
    exact runAt_S (Q := Round _ (n + 1) _) (n := 100000) (c := (.code L1)) (K := []) (s := (I1 r24 r25 q26 q27 out28 i29).sl) (e := (.exit 2)) (t := J1_0 r24 r25 q26 q27 out28) (l := [(0, 2)])
      (hs := [hA, .h .sa, hA, hA, .h .sa, hA, .g (.env 61 (C.v (vB false)))])
      (ps := [C.v (vB (decide (w64 (i29 + (q26.size : Int)) ≤ (r24.size : Int)))) = C.v (vB false), 0 = 0, out28.length = out28.length, (own (cs (eS eT) out28)) = (cs (eS eT) out28).map C.own])
      (by kernel_rfl) ⟨vbB h30, rfl, rfl, rfl, trivial⟩ (fun st hl => ⟨rfl, hl⟩)
def fn (fuel : Nat) (r0 : T174) (q1 : T174) (same2 : Bool) : Option (List (List ByteArray)) :=
  (p0 fuel same2 r0.f0 r0.f1 q1.f0 q1.f1 fuel ([] : List (List ByteArray)) (1 : Int)).bind fun r21 =>
  cond (same2)
  (some r21)
  ((p1 fuel r0.f0 r0.f1 q1.f0 q1.f1 fuel r21 (0 : Int)).bind fun r43 =>
    some r43)
theorem ent : enterable Try.prog 143 = true := by kernel_rfl
theorem fn_c (fuel : Nat) (r0 : T174) (q1 : T174) (same2 : Bool) (r : (List (List ByteArray))) (h : fn fuel r0 q1 same2 = some r) : CallOK Try.prog 143 [.ro (.ag (eT174.f r0)), .ro (.ag (eT174.f q1)), .ro (vB same2)] [] (vS (eS eT) r) := by
  refine contract_run Try.func143 (b := bod Try.f143) rfl ent ?_
  unfold fn at h
  obtain ⟨r21, h22, h⟩ := bind_cases h
  refine runTo_S (n := 100000) (c := (.code (bod Try.f143))) (K := []) (b := (.code (.loop L0))) (K1 := K0) (t := I0 same2 r0.f0 r0.f1 q1.f0 q1.f1 ([] : List (List ByteArray)) (1 : Int)) (l := [(0, 0), (1, 1), (2, 2)])
    (hs := [.h (.new 0), .h (.new 1), .h (.new 2)])
    (ps := [(same2 : Bool) = same2, 0 = 0, 0 = 0, 0 = 0, 0 = ([] : List (List ByteArray)).length, (1 : Int) = (1 : Int), (own (cs (eS eT) ([] : List (List ByteArray)))) = (cs (eS eT) ([] : List (List ByteArray))).map C.own, Value.string r0.f0 = Value.string r0.f0, Value.string r0.f1 = Value.string r0.f1, Value.string q1.f0 = Value.string q1.f0, Value.string q1.f1 = Value.string q1.f1])
    (by kernel_rfl) ⟨rfl, rfl, rfl, rfl, rfl, rfl, rfl, rfl, rfl, rfl, rfl, trivial⟩ (cut_code ?_)
  refine TW.mono_le (p0_c fuel same2 r0.f0 r0.f1 q1.f0 q1.f1 fuel ([] : List (List ByteArray)) (1 : Int) _ h22) ?_
  rintro e st hq
  obtain ⟨rfl, hl⟩ := hq
  refine ⟨_, hl, ?_⟩
  rcases cond_cases h with ⟨h23, h⟩ | ⟨h23, h⟩
  · 
    obtain rfl := Option.some.inj h
    exact runRet_S (r := ⟨Try.f143.results.toList, _, _, _, [(2, (cs (eS eT) r21), (cs (eS eT) r21))], 9⟩) (n := 100000) (c := (.out (.exit 0))) (K := K0) (s := (J0_0 same2 r0.f0 r0.f1 q1.f0 q1.f1 r21).sl)
      (hs := [.skip, .g (.env 51 (C.v (vB true)))])
      (ps := [C.v (vB same2) = C.v (vB true), (own (cs (eS eT) r21)) = (cs (eS eT) r21).map C.own, 0 + r21.length * 1 ≤ (cs (eS eT) r21).length, ((cs (eS eT) r21).drop (0)).take (r21.length * 1) = (cs (eS eT) r21), ((.sl 1 r21.length (cs (eS eT) r21)) : V) = (vS (eS eT) r21)])
      (by kernel_rfl) ⟨vbB h23, rfl, len_all (e := (eS eT)) (rfl), take_cs (e := (eS eT)) (rfl), rfl, trivial⟩ rfl (fun _ _ h => h)
  · 
    obtain ⟨r43, h44, h⟩ := bind_cases h
    refine runTo_S (n := 100000) (c := (.out (.exit 0))) (K := K0) (s := (J0_0 same2 r0.f0 r0.f1 q1.f0 q1.f1 r21).sl) (b := (.code (.loop L1))) (K1 := K1) (t := I1 r0.f0 r0.f1 q1.f0 q1.f1 r21 (0 : Int)) (l := [(0, 0), (1, 1), (2, 2)])
      (hs := [.skip, .g (.env 51 (C.v (vB false)))])
      (ps := [C.v (vB same2) = C.v (vB false), 0 = 0, 0 = 0, 0 = 0, r21.length = r21.length, (0 : Int) = (0 : Int), (own (cs (eS eT) r21)) = (cs (eS eT) r21).map C.own, Value.string r0.f0 = Value.string r0.f0, Value.string r0.f1 = Value.string r0.f1, Value.string q1.f0 = Value.string q1.f0, Value.string q1.f1 = Value.string q1.f1])
      (by kernel_rfl) ⟨vbB h23, rfl, rfl, rfl, rfl, rfl, rfl, rfl, rfl, rfl, rfl, trivial⟩ (cut_code ?_)
    refine TW.mono_le (p1_c fuel r0.f0 r0.f1 q1.f0 q1.f1 fuel r21 (0 : Int) _ h44) ?_
    rintro e st hq
    obtain ⟨rfl, hl⟩ := hq
    refine ⟨_, hl, ?_⟩
    obtain rfl := Option.some.inj h
    exact runRet_S (r := ⟨Try.f143.results.toList, _, _, _, [(0, (cs (eS eT) r43), (cs (eS eT) r43))], 9⟩) (n := 100000) (c := (.out (.exit 2))) (K := K1) (s := (J1_0 r0.f0 r0.f1 q1.f0 q1.f1 r43).sl)
      (hs := [])
      (ps := [(own (cs (eS eT) r43)) = (cs (eS eT) r43).map C.own, 0 + r43.length * 1 ≤ (cs (eS eT) r43).length, ((cs (eS eT) r43).drop (0)).take (r43.length * 1) = (cs (eS eT) r43), ((.sl 1 r43.length (cs (eS eT) r43)) : V) = (vS (eS eT) r43)])
      (by kernel_rfl) ⟨rfl, len_all (e := (eS eT)) (rfl), take_cs (e := (eS eT)) (rfl), rfl, trivial⟩ rfl (fun _ _ h => h)
end F143
namespace F81
/-! impl.pairs -/
noncomputable def K0 := (subC [1, 1, 0, 1, 0] (bod Try.f81) []).2
noncomputable def L0 := (subC [1, 1, 0, 1, 0, 0] (bod Try.f81) []).1
noncomputable def K1 := (subC [1, 1, 0, 0, 1, 1, 0] L0 []).2
noncomputable def L1 := (subC [1, 1, 0, 0, 1, 1, 0, 0] L0 []).1
def I1 (l9 : List T174) (out10 : List (List ByteArray)) (i11 : Int) (r12 : ByteArray) (r13 : ByteArray) (v14 : List T174) (v15 : Int) (v16 : Int) (v17 : List T174) (v18 : Int) (v19 : Int) : TL := ⟨34, [C.dead], [(0, C.v (vS eT174 l9)), (3, C.sr 0 0 1 out10.length), (4, C.v (vI .i64 i11)), (5, C.pr 1 0), (9, C.v (vS eT174 v14)), (10, C.v (vI .i64 v15)), (11, C.v (vI .i64 v16)), (16, C.v (vS eT174 v17)), (17, C.v (vI .i64 v18)), (18, C.v (vI .i64 v19))], [(0, (cs (eS eT) out10))], [(1, [C.own (vT r12), C.own (vT r13)])]⟩
def J1_0 (l9 : List T174) (i11 : Int) (r12 : ByteArray) (r13 : ByteArray) (v14 : List T174) (v15 : Int) (v16 : Int) (v17 : List T174) (v18 : Int) (o : (List (List ByteArray))) : TL := ⟨34, [C.dead], [(0, C.v (vS eT174 l9)), (3, C.sr 0 0 1 o.length), (9, C.v (vS eT174 v14)), (10, C.v (vI .i64 v15)), (11, C.v (vI .i64 v16))], [(0, (cs (eS eT) o))], []⟩
def Q1 (l9 : List T174) (i11 : Int) (r12 : ByteArray) (r13 : ByteArray) (v14 : List T174) (v15 : Int) (v16 : Int) (v17 : List T174) (v18 : Int) (r : (List (List ByteArray))) (e : Exit) (st : St) : Prop := (fun o => e = (.exit 2) ∧ Le st (J1_0 l9 i11 r12 r13 v14 v15 v16 v17 v18 o).sl.st) r
def p1 (fuel : Nat) (l9 : List T174) (i11 : Int) (r12 : ByteArray) (r13 : ByteArray) (v14 : List T174) (v15 : Int) (v16 : Int) (v17 : List T174) (v18 : Int) : Nat → (List (List ByteArray)) → Int → Option (List (List ByteArray))
  | 0, _, _ => none
  | n + 1, out10, v19 =>
    cond (decide (v19 < v18))
    ((idx v19 v17.length).bind fun j21 =>
      (F143.fn fuel (⟨r12, r13⟩ : T174) (v17.getD j21 (default : T174)) (decide (i11 = v19))).bind fun r23 =>
      (chk ((out10.length + r23.length) * 24 ≤ 140737488355328)).bind fun _ =>
      p1 fuel l9 i11 r12 r13 v14 v15 v16 v17 v18 n (out10 ++ r23) (w64 (v19 + 1)))
    (some out10)
theorem p1_c (fuel : Nat) (l9 : List T174) (i11 : Int) (r12 : ByteArray) (r13 : ByteArray) (v14 : List T174) (v15 : Int) (v16 : Int) (v17 : List T174) (v18 : Int) (n : Nat) (out10 : List (List ByteArray)) (v19 : Int) (r : (List (List ByteArray))) (h : p1 fuel l9 i11 r12 r13 v14 v15 v16 v17 v18 n out10 v19 = some r) : TW Try.prog (.loop L1) (I1 l9 out10 i11 r12 r13 v14 v15 v16 v17 v18 v19).sl.st (Q1 l9 i11 r12 r13 v14 v15 v16 v17 v18 r) := by
  refine loop_run (σ := (List (List ByteArray)) × Int) (fun x => I1 l9 x.1 i11 r12 r13 v14 v15 v16 v17 v18 x.2) (fun n x => p1 fuel l9 i11 r12 r13 v14 v15 v16 v17 v18 n x.1 x.2) (Q1 l9 i11 r12 r13 v14 v15 v16 v17 v18) ?_ (fun _ => rfl) (x := (out10, v19)) h
  clear h
  rintro n ⟨out10, v19⟩ r h
  replace h : p1 fuel l9 i11 r12 r13 v14 v15 v16 v17 v18 (n + 1) out10 v19 = some r := h
  rw [p1] at h
  rcases cond_cases h with ⟨h20, h⟩ | ⟨h20, h⟩
  · 
    obtain ⟨j21, h22, h⟩ := bind_cases h
    obtain ⟨r23, h24, h⟩ := bind_cases h
    obtain ⟨_, h25, h⟩ := bind_cases h
    exact runAt_S (Q := Round _ (n + 1) _) (n := 100000) (c := (.code L1)) (K := []) (s := (I1 l9 out10 i11 r12 r13 v14 v15 v16 v17 v18 v19).sl) (e := .normal) (t := I1 l9 (out10 ++ r23) i11 r12 r13 v14 v15 v16 v17 v18 (w64 (v19 + 1))) (l := [(0, 4), (1, 1)])
      (hs := [hA, .g (.env 19 (C.v (vB true))), .h (.idv j21 (eT174.f (v17.getD j21 (default : T174)) ++ (cs eT174 (v17.drop (j21 + 1))))), hA, .h (.new 2), hA, hA, hA, hA, .call ⟨[.ro, .ro, .ro], 9, [], true, [], (vS (eS eT) r23), [], 3⟩, .h (.apm 4 (cs (eS eT) r23) (own (cs (eS eT) (out10 ++ r23)))), hA])
      (ps := [C.v (vB (decide (v19 < v18))) = C.v (vB true), v19 = (j21 : Int), j21 < v17.length, (cs eT174 v17).drop (j21 * 2) = (eT174.f (v17.getD j21 (default : T174)) ++ (cs eT174 (v17.drop (j21 + 1)))), cs eT174 v17 ≠ [], CallOK Try.prog 143 [.ro (.ag [(vT r12), (vT r13)]), .ro (.ag [(vT ((v17.getD j21 (default : T174)).f0)), (vT ((v17.getD j21 (default : T174)).f1))]), .ro (vB (decide (i11 = v19)))] [] (vS (eS eT) r23), (own (cs (eS eT) r23)) = (cs (eS eT) r23).map C.own, (cs (eS eT) r23).length = r23.length * 1, (cs (eS eT) r23).all oneV = true, 0 + out10.length * 1 ≤ (own (cs (eS eT) out10)).length, (out10.length + r23.length) * 24 ≤ 140737488355328, ((own (cs (eS eT) out10)).drop 0).take (out10.length * 1) ++ (cs (eS eT) r23).map C.own = (own (cs (eS eT) (out10 ++ r23))), ((vS eT174 l9) : V) = (vS eT174 l9), 0 = 0, out10.length + r23.length = (out10 ++ r23).length, (i11 : Int) = i11, 0 = 0, ((vS eT174 v14) : V) = (vS eT174 v14), (v15 : Int) = v15, (v16 : Int) = v16, ((vS eT174 v17) : V) = (vS eT174 v17), (v18 : Int) = v18, (w64 (v19 + 1) : Int) = (w64 (v19 + 1)), (own (cs (eS eT) (out10 ++ r23))) = (cs (eS eT) (out10 ++ r23)).map C.own, Value.string r12 = Value.string r12, Value.string r13 = Value.string r13])
      (by kernel_rfl) ⟨vbB h20, (idx_S h22).1, (idx_S h22).2, cs_from (e := eT174) (d := (default : T174)) (idx_S h22).2, cs_ne (e := eT174) (idx_S h22).2 (by decide), F143.fn_c fuel (⟨r12, r13⟩ : T174) (v17.getD j21 (default : T174)) (decide (i11 = v19)) _ h24, rfl, by rw [cs_length, show r23.length = r23.length from (rfl)]; rfl, all_oneV, own_len (e := (eS eT)) (rfl), (chk_S h25), own_app (e := (eS eT)) (rfl) rfl, rfl, rfl, app_ln (rfl) (rfl), rfl, rfl, rfl, rfl, rfl, rfl, rfl, rfl, rfl, rfl, rfl, trivial⟩ (fun st hl => ⟨n, _, Nat.lt_succ_self n, hl, (out10 ++ r23, w64 (v19 + 1)), rfl, rfl, h⟩)
  · 
    obtain rfl := Option.some.inj h
    exact runAt_S (Q := Round _ (n + 1) _) (n := 100000) (c := (.code L1)) (K := []) (s := (I1 l9 out10 i11 r12 r13 v14 v15 v16 v17 v18 v19).sl) (e := (.exit 2)) (t := J1_0 l9 i11 r12 r13 v14 v15 v16 v17 v18 out10) (l := [(0, 0)])
      (hs := [hA, .g (.env 19 (C.v (vB false)))])
      (ps := [C.v (vB (decide (v19 < v18))) = C.v (vB false), ((vS eT174 l9) : V) = (vS eT174 l9), 0 = 0, out10.length = out10.length, ((vS eT174 v14) : V) = (vS eT174 v14), (v15 : Int) = v15, (v16 : Int) = v16, (own (cs (eS eT) out10)) = (cs (eS eT) out10).map C.own])
      (by kernel_rfl) ⟨vbB h20, rfl, rfl, rfl, rfl, rfl, rfl, rfl, trivial⟩ (fun st hl => ⟨rfl, hl⟩)
def I0 (l1 : List T174) (out2 : List (List ByteArray)) (v3 : List T174) (v4 : Int) (v5 : Int) : TL := ⟨34, [C.dead], [(0, C.v (vS eT174 l1)), (3, C.sr 0 0 1 out2.length), (9, C.v (vS eT174 v3)), (10, C.v (vI .i64 v4)), (11, C.v (vI .i64 v5))], [(0, (cs (eS eT) out2))], []⟩
def J0_0 (l1 : List T174) (v3 : List T174) (v4 : Int) (o : (List (List ByteArray))) : TL := ⟨34, [C.dead], [(3, C.sr 0 0 1 o.length)], [(0, (cs (eS eT) o))], []⟩
def Q0 (l1 : List T174) (v3 : List T174) (v4 : Int) (r : (List (List ByteArray))) (e : Exit) (st : St) : Prop := (fun o => e = (.exit 0) ∧ Le st (J0_0 l1 v3 v4 o).sl.st) r
def p0 (fuel : Nat) (l1 : List T174) (v3 : List T174) (v4 : Int) : Nat → (List (List ByteArray)) → Int → Option (List (List ByteArray))
  | 0, _, _ => none
  | n + 1, out2, v5 =>
    cond (decide (v5 < v4))
    ((idx v5 v3.length).bind fun j7 =>
      (p1 fuel l1 v5 ((v3.getD j7 (default : T174)).f0) ((v3.getD j7 (default : T174)).f1) v3 v4 v5 l1 (l1.length : Int) fuel out2 (0 : Int)).bind fun r26 =>
      p0 fuel l1 v3 v4 n r26 (w64 (v5 + 1)))
    (some out2)
theorem p0_c (fuel : Nat) (l1 : List T174) (v3 : List T174) (v4 : Int) (n : Nat) (out2 : List (List ByteArray)) (v5 : Int) (r : (List (List ByteArray))) (h : p0 fuel l1 v3 v4 n out2 v5 = some r) : TW Try.prog (.loop L0) (I0 l1 out2 v3 v4 v5).sl.st (Q0 l1 v3 v4 r) := by
  refine loop_run (σ := (List (List ByteArray)) × Int) (fun x => I0 l1 x.1 v3 v4 x.2) (fun n x => p0 fuel l1 v3 v4 n x.1 x.2) (Q0 l1 v3 v4) ?_ (fun _ => rfl) (x := (out2, v5)) h
  clear h
  rintro n ⟨out2, v5⟩ r h
  replace h : p0 fuel l1 v3 v4 (n + 1) out2 v5 = some r := h
  rw [p0] at h
  rcases cond_cases h with ⟨h6, h⟩ | ⟨h6, h⟩
  · 
    obtain ⟨j7, h8, h⟩ := bind_cases h
    obtain ⟨r26, h27, h⟩ := bind_cases h
    refine runTo_S (n := 100000) (c := (.code L0)) (K := []) (s := (I0 l1 out2 v3 v4 v5).sl) (b := (.code (.loop L1))) (K1 := K1) (t := I1 l1 out2 v5 ((v3.getD j7 (default : T174)).f0) ((v3.getD j7 (default : T174)).f1) v3 v4 v5 l1 (l1.length : Int) (0 : Int)) (l := [(0, 0), (1, 1)])
      (hs := [hA, .g (.env 12 (C.v (vB true))), .h (.idv j7 (eT174.f (v3.getD j7 (default : T174)) ++ (cs eT174 (v3.drop (j7 + 1))))), hA, .h (.new 1), hA, hA])
      (ps := [C.v (vB (decide (v5 < v4))) = C.v (vB true), v5 = (j7 : Int), j7 < v3.length, (cs eT174 v3).drop (j7 * 2) = (eT174.f (v3.getD j7 (default : T174)) ++ (cs eT174 (v3.drop (j7 + 1)))), cs eT174 v3 ≠ [], ((vS eT174 l1) : V) = (vS eT174 l1), 0 = 0, out2.length = out2.length, (v5 : Int) = v5, 0 = 0, ((vS eT174 v3) : V) = (vS eT174 v3), (v4 : Int) = v4, (v5 : Int) = v5, ((vS eT174 l1) : V) = (vS eT174 l1), ((l1.length : Int) : Int) = (l1.length : Int), (0 : Int) = (0 : Int), (own (cs (eS eT) out2)) = (cs (eS eT) out2).map C.own, Value.string ((v3.getD j7 (default : T174)).f0) = Value.string ((v3.getD j7 (default : T174)).f0), Value.string ((v3.getD j7 (default : T174)).f1) = Value.string ((v3.getD j7 (default : T174)).f1)])
      (by kernel_rfl) ⟨vbB h6, (idx_S h8).1, (idx_S h8).2, cs_from (e := eT174) (d := (default : T174)) (idx_S h8).2, cs_ne (e := eT174) (idx_S h8).2 (by decide), rfl, rfl, rfl, rfl, rfl, rfl, rfl, rfl, rfl, rfl, rfl, rfl, rfl, rfl, trivial⟩ (cut_code ?_)
    refine TW.mono_le (p1_c fuel l1 v5 ((v3.getD j7 (default : T174)).f0) ((v3.getD j7 (default : T174)).f1) v3 v4 v5 l1 (l1.length : Int) fuel out2 (0 : Int) _ h27) ?_
    rintro e st hq
    obtain ⟨rfl, hl⟩ := hq
    refine ⟨_, hl, ?_⟩
    exact runAt_S (Q := Round _ (n + 1) _) (n := 100000) (c := (.out (.exit 2))) (K := K1) (s := (J1_0 l1 v5 ((v3.getD j7 (default : T174)).f0) ((v3.getD j7 (default : T174)).f1) v3 v4 v5 l1 (l1.length : Int) r26).sl) (e := .normal) (t := I0 l1 r26 v3 v4 (w64 (v5 + 1))) (l := [(0, 0)])
      (hs := [hA])
      (ps := [((vS eT174 l1) : V) = (vS eT174 l1), 0 = 0, r26.length = r26.length, ((vS eT174 v3) : V) = (vS eT174 v3), (v4 : Int) = v4, (w64 (v5 + 1) : Int) = (w64 (v5 + 1)), (own (cs (eS eT) r26)) = (cs (eS eT) r26).map C.own])
      (by kernel_rfl) ⟨rfl, rfl, rfl, rfl, rfl, rfl, rfl, trivial⟩ (fun st hl => ⟨n, _, Nat.lt_succ_self n, hl, (r26, w64 (v5 + 1)), rfl, rfl, h⟩)
  · 
    obtain rfl := Option.some.inj h
    exact runAt_S (Q := Round _ (n + 1) _) (n := 100000) (c := (.code L0)) (K := []) (s := (I0 l1 out2 v3 v4 v5).sl) (e := (.exit 0)) (t := J0_0 l1 v3 v4 out2) (l := [(0, 0)])
      (hs := [hA, .g (.env 12 (C.v (vB false)))])
      (ps := [C.v (vB (decide (v5 < v4))) = C.v (vB false), 0 = 0, out2.length = out2.length, (own (cs (eS eT) out2)) = (cs (eS eT) out2).map C.own])
      (by kernel_rfl) ⟨vbB h6, rfl, rfl, rfl, trivial⟩ (fun st hl => ⟨rfl, hl⟩)
def fn (fuel : Nat) (l0 : List T174) : Option (List (List ByteArray)) :=
  (p0 fuel l0 l0 (l0.length : Int) fuel ([] : List (List ByteArray)) (0 : Int)).bind fun r28 =>
  some r28
theorem ent : enterable Try.prog 81 = true := by kernel_rfl
theorem fn_c (fuel : Nat) (l0 : List T174) (r : (List (List ByteArray))) (h : fn fuel l0 = some r) : CallOK Try.prog 81 [.ro (vS eT174 l0)] [] (vS (eS eT) r) := by
  refine contract_run Try.func81 (b := bod Try.f81) rfl ent ?_
  unfold fn at h
  obtain ⟨r28, h29, h⟩ := bind_cases h
  refine runTo_S (n := 100000) (c := (.code (bod Try.f81))) (K := []) (b := (.code (.loop L0))) (K1 := K0) (t := I0 l0 ([] : List (List ByteArray)) l0 (l0.length : Int) (0 : Int)) (l := [(0, 0)])
    (hs := [.h (.new 0), hA])
    (ps := [((vS eT174 l0) : V) = (vS eT174 l0), 0 = 0, 0 = ([] : List (List ByteArray)).length, ((vS eT174 l0) : V) = (vS eT174 l0), ((l0.length : Int) : Int) = (l0.length : Int), (0 : Int) = (0 : Int), (own (cs (eS eT) ([] : List (List ByteArray)))) = (cs (eS eT) ([] : List (List ByteArray))).map C.own])
    (by kernel_rfl) ⟨rfl, rfl, rfl, rfl, rfl, rfl, rfl, trivial⟩ (cut_code ?_)
  refine TW.mono_le (p0_c fuel l0 l0 (l0.length : Int) fuel ([] : List (List ByteArray)) (0 : Int) _ h29) ?_
  rintro e st hq
  obtain ⟨rfl, hl⟩ := hq
  refine ⟨_, hl, ?_⟩
  obtain rfl := Option.some.inj h
  exact runRet_S (r := ⟨Try.f81.results.toList, _, _, _, [(0, (cs (eS eT) r28), (cs (eS eT) r28))], 9⟩) (n := 100000) (c := (.out (.exit 0))) (K := K0) (s := (J0_0 l0 l0 (l0.length : Int) r28).sl)
    (hs := [])
    (ps := [(own (cs (eS eT) r28)) = (cs (eS eT) r28).map C.own, 0 + r28.length * 1 ≤ (cs (eS eT) r28).length, ((cs (eS eT) r28).drop (0)).take (r28.length * 1) = (cs (eS eT) r28), ((.sl 1 r28.length (cs (eS eT) r28)) : V) = (vS (eS eT) r28)])
    (by kernel_rfl) ⟨rfl, len_all (e := (eS eT)) (rfl), take_cs (e := (eS eT)) (rfl), rfl, trivial⟩ rfl (fun _ _ h => h)
end F81
namespace F19
/-! impl.IsConfluent -/
noncomputable def K0 := (subC [1, 1, 1, 0, 1, 0] (bod Try.f19) []).2
noncomputable def L0 := (subC [1, 1, 1, 0, 1, 0, 0] (bod Try.f19) []).1
noncomputable def K1 := (subC [1, 1, 0, 0, 1, 1, 1, 0, 0] L0 []).2
noncomputable def B1 := (subC [1, 1, 0, 0, 1, 1, 1, 0, 0] L0 []).1
def I1 (l22 : List T174) (confluent23 : Bool) (a24 : ByteArray) (ok25 : Bool) (b26 : ByteArray) (fine27 : Bool) (v28 : List (List ByteArray)) (v29 : Int) (v30 : Int) : TL := ⟨55, [C.dead], [(0, C.v (vS eT174 l22)), (4, C.v (vB confluent23)), (7, C.v (vT a24)), (9, C.v (vB ok25)), (10, C.v (vT b26)), (12, C.v (vB fine27)), (17, C.sr 0 0 1 v28.length), (18, C.v (vI .i64 v29)), (19, C.v (vI .i64 v30))], [(0, (cs (eS eT) v28))], []⟩
def J1_0 (l22 : List T174) (confluent23 : Bool) (a24 : ByteArray) (ok25 : Bool) (b26 : ByteArray) (fine27 : Bool) (v28 : List (List ByteArray)) (v29 : Int) (v30 : Int) (o : Bool) : TL := ⟨55, [C.dead], [(0, C.v (vS eT174 l22)), (4, C.v (vB confluent23)), (7, C.v (vT a24)), (10, C.v (vT b26)), (17, C.sr 0 0 1 v28.length), (18, C.v (vI .i64 v29)), (19, C.v (vI .i64 v30)), (46, C.v (vB o))], [(0, (cs (eS eT) v28))], []⟩
def Q1 (l22 : List T174) (confluent23 : Bool) (a24 : ByteArray) (ok25 : Bool) (b26 : ByteArray) (fine27 : Bool) (v28 : List (List ByteArray)) (v29 : Int) (v30 : Int) (r : Bool) (e : Exit) (st : St) : Prop := (fun o => e = .normal ∧ Le st (J1_0 l22 confluent23 a24 ok25 b26 fine27 v28 v29 v30 o).sl.st) r
def p1 (fuel : Nat) (l22 : List T174) (confluent23 : Bool) (a24 : ByteArray) (ok25 : Bool) (b26 : ByteArray) (fine27 : Bool) (v28 : List (List ByteArray)) (v29 : Int) (v30 : Int) : Option Bool :=
  cond (!ok25)
  (some true)
  (some (!fine27))
theorem p1_c (fuel : Nat) (l22 : List T174) (confluent23 : Bool) (a24 : ByteArray) (ok25 : Bool) (b26 : ByteArray) (fine27 : Bool) (v28 : List (List ByteArray)) (v29 : Int) (v30 : Int) (r : Bool) (h : p1 fuel l22 confluent23 a24 ok25 b26 fine27 v28 v29 v30 = some r) : TW Try.prog B1 (I1 l22 confluent23 a24 ok25 b26 fine27 v28 v29 v30).sl.st (Q1 l22 confluent23 a24 ok25 b26 fine27 v28 v29 v30 r) := by
  unfold p1 at h
  rcases cond_cases h with ⟨h31, h⟩ | ⟨h31, h⟩
  · 
    obtain rfl := Option.some.inj h
    exact runAt_S (Q := Q1 l22 confluent23 a24 ok25 b26 fine27 v28 v29 v30 _) (n := 100000) (c := (.code B1)) (K := []) (s := (I1 l22 confluent23 a24 ok25 b26 fine27 v28 v29 v30).sl) (e := .normal) (t := J1_0 l22 confluent23 a24 ok25 b26 fine27 v28 v29 v30 true) (l := [(0, 0)])
      (hs := [hA, .skip, .g (.env 43 (C.v (vB true)))])
      (ps := [C.v (vB (!ok25)) = C.v (vB true), ((vS eT174 l22) : V) = (vS eT174 l22), (confluent23 : Bool) = confluent23, Value.string a24 = Value.string a24, Value.string b26 = Value.string b26, 0 = 0, v28.length = v28.length, (v29 : Int) = v29, (v30 : Int) = v30, (true : Bool) = true, (own (cs (eS eT) v28)) = (cs (eS eT) v28).map C.own])
      (by kernel_rfl) ⟨vbB h31, rfl, rfl, rfl, rfl, rfl, rfl, rfl, rfl, rfl, rfl, trivial⟩ (fun st hl => ⟨rfl, hl⟩)
  · 
    obtain rfl := Option.some.inj h
    exact runAt_S (Q := Q1 l22 confluent23 a24 ok25 b26 fine27 v28 v29 v30 _) (n := 100000) (c := (.code B1)) (K := []) (s := (I1 l22 confluent23 a24 ok25 b26 fine27 v28 v29 v30).sl) (e := .normal) (t := J1_0 l22 confluent23 a24 ok25 b26 fine27 v28 v29 v30 (!fine27)) (l := [(0, 0)])
      (hs := [hA, .skip, .g (.env 43 (C.v (vB false))), hA])
      (ps := [C.v (vB (!ok25)) = C.v (vB false), ((vS eT174 l22) : V) = (vS eT174 l22), (confluent23 : Bool) = confluent23, Value.string a24 = Value.string a24, Value.string b26 = Value.string b26, 0 = 0, v28.length = v28.length, (v29 : Int) = v29, (v30 : Int) = v30, (!fine27 : Bool) = (!fine27), (own (cs (eS eT) v28)) = (cs (eS eT) v28).map C.own])
      (by kernel_rfl) ⟨vbB h31, rfl, rfl, rfl, rfl, rfl, rfl, rfl, rfl, rfl, rfl, trivial⟩ (fun st hl => ⟨rfl, hl⟩)
def I0 (l6 : List T174) (confluent7 : Bool) (v8 : List (List ByteArray)) (v9 : Int) (v10 : Int) : TL := ⟨55, [C.dead], [(0, C.v (vS eT174 l6)), (4, C.v (vB confluent7)), (17, C.sr 0 0 1 v8.length), (18, C.v (vI .i64 v9)), (19, C.v (vI .i64 v10))], [(0, (cs (eS eT) v8))], []⟩
def J0_0 (l6 : List T174) (v8 : List (List ByteArray)) (v9 : Int) (o : Unit) : TL := ⟨55, [C.dead], [(2, C.v (vB false)), (3, C.v (vB false))], [], []⟩
def J0_1 (l6 : List T174) (v8 : List (List ByteArray)) (v9 : Int) (o : Bool) : TL := ⟨55, [C.dead], [(4, C.v (vB o))], [], []⟩
def Q0 (l6 : List T174) (v8 : List (List ByteArray)) (v9 : Int) (r : Unit ⊕ Bool) (e : Exit) (st : St) : Prop := (Sum.elim (fun o => e = .ret ∧ Le st (J0_0 l6 v8 v9 o).sl.st) (fun o => e = (.exit 0) ∧ Le st (J0_1 l6 v8 v9 o).sl.st)) r
def p0 (fuel : Nat) (l6 : List T174) (v8 : List (List ByteArray)) (v9 : Int) : Nat → Bool → Int → Option (Unit ⊕ Bool)
  | 0, _, _ => none
  | n + 1, confluent7, v10 =>
    cond (decide (v10 < v9))
    ((idx v10 v8.length).bind fun j12 =>
      (idx 0 ((v8.getD j12 ([] : List ByteArray)).length)).bind fun j14 =>
      (F76.fn fuel l6 ((v8.getD j12 ([] : List ByteArray)).getD j14 ByteArray.empty) false).bind fun r16 =>
      (idx 1 ((v8.getD j12 ([] : List ByteArray)).length)).bind fun j18 =>
      (F76.fn fuel l6 ((v8.getD j12 ([] : List ByteArray)).getD j18 ByteArray.empty) false).bind fun r20 =>
      (p1 fuel l6 confluent7 r16.1 r16.2.2 r20.1 r20.2.2 v8 v9 v10).bind fun r32 =>
      cond (r32)
      (some (.inl ()))
      (cond (confluent7)
        (p0 fuel l6 v8 v9 n (sEq r16.1 r20.1) (w64 (v10 + 1)))
        (p0 fuel l6 v8 v9 n false (w64 (v10 + 1)))))
    (some (.inr confluent7))
theorem p0_c (fuel : Nat) (l6 : List T174) (v8 : List (List ByteArray)) (v9 : Int) (n : Nat) (confluent7 : Bool) (v10 : Int) (r : Unit ⊕ Bool) (h : p0 fuel l6 v8 v9 n confluent7 v10 = some r) : TW Try.prog (.loop L0) (I0 l6 confluent7 v8 v9 v10).sl.st (Q0 l6 v8 v9 r) := by
  refine loop_run (σ := Bool × Int) (fun x => I0 l6 x.1 v8 v9 x.2) (fun n x => p0 fuel l6 v8 v9 n x.1 x.2) (Q0 l6 v8 v9) ?_ (fun _ => rfl) (x := (confluent7, v10)) h
  clear h
  rintro n ⟨confluent7, v10⟩ r h
  replace h : p0 fuel l6 v8 v9 (n + 1) confluent7 v10 = some r := h
  rw [p0] at h
  rcases cond_cases h with ⟨h11, h⟩ | ⟨h11, h⟩
  · 
    obtain ⟨j12, h13, h⟩ := bind_cases h
    obtain ⟨j14, h15, h⟩ := bind_cases h
    obtain ⟨r16, h17, h⟩ := bind_cases h
    obtain ⟨j18, h19, h⟩ := bind_cases h
    obtain ⟨r20, h21, h⟩ := bind_cases h
    obtain ⟨r32, h33, h⟩ := bind_cases h
    refine runTo_S (n := 20) (c := (.code L0)) (K := []) (s := (I0 l6 confluent7 v8 v9 v10).sl) (b := (.code B1)) (K1 := K1) (t := I1 l6 confluent7 r16.1 r16.2.2 r20.1 r20.2.2 v8 v9 v10) (l := [(0, 0)])
      (hs := [hA, .g (.env 20 (C.v (vB true))), .h (.idx j12 false), .h (.opn 1 (vS eT (v8.getD j12 ([] : List ByteArray))) ((own (cs (eS eT) v8)).set (0 + j12 * 1) (C.sr 1 0 1 (v8.getD j12 ([] : List ByteArray)).length))), .h (.idx j14 false), .h (.cell (C.v (vT ((v8.getD j12 ([] : List ByteArray)).getD j14 ByteArray.empty)))), .call ⟨[.ro, .ro, .ro], 9, [], true, [], (.tp [(vT r16.1), (vI .i64 r16.2.1), (vB r16.2.2)]), [], 2⟩, .h (.idx j18 false), .h (.cell (C.v (vT ((v8.getD j12 ([] : List ByteArray)).getD j18 ByteArray.empty)))), .call ⟨[.ro, .ro, .ro], 9, [], true, [], (.tp [(vT r20.1), (vI .i64 r20.2.1), (vB r20.2.2)]), [], 2⟩, .skip, .skip, .skip, .skip, .skip, .skip, .skip, .g (.foldD 0 (0 + j12 * 1) 9 [(1, (cs eT (v8.getD j12 ([] : List ByteArray))), (cs eT (v8.getD j12 ([] : List ByteArray))))] (C.sr 1 0 1 ((v8.getD j12 ([] : List ByteArray)).length)) (own (cs (eS eT) v8)))])
      (ps := [C.v (vB (decide (v10 < v9))) = C.v (vB true), v10 = (j12 : Int), j12 < v8.length, (own (cs (eS eT) v8))[0 + j12 * 1]? = some (C.own (vS eT (v8.getD j12 ([] : List ByteArray)))), (own (cs (eS eT) v8)).set (0 + j12 * 1) (C.sr 1 0 1 ((v8.getD j12 ([] : List ByteArray)).length)) = ((own (cs (eS eT) v8)).set (0 + j12 * 1) (C.sr 1 0 1 (v8.getD j12 ([] : List ByteArray)).length)), 0 = (j14 : Int), j14 < (v8.getD j12 ([] : List ByteArray)).length, ((own (cs eT (v8.getD j12 ([] : List ByteArray))))[0 + j14 * 1]?).bind readC = some (C.v (vT ((v8.getD j12 ([] : List ByteArray)).getD j14 ByteArray.empty))), CallOK Try.prog 76 [.ro (vS eT174 l6), .ro (vT ((v8.getD j12 ([] : List ByteArray)).getD j14 ByteArray.empty)), .ro (vB false)] [] (.tp [(vT r16.1), (vI .i64 r16.2.1), (vB r16.2.2)]), 1 = (j18 : Int), j18 < (v8.getD j12 ([] : List ByteArray)).length, ((own (cs eT (v8.getD j12 ([] : List ByteArray))))[0 + j18 * 1]?).bind readC = some (C.v (vT ((v8.getD j12 ([] : List ByteArray)).getD j18 ByteArray.empty))), CallOK Try.prog 76 [.ro (vS eT174 l6), .ro (vT ((v8.getD j12 ([] : List ByteArray)).getD j18 ByteArray.empty)), .ro (vB false)] [] (.tp [(vT r20.1), (vI .i64 r20.2.1), (vB r20.2.2)]), ((own (cs (eS eT) v8)).set (0 + j12 * 1) (C.sr 1 0 1 (v8.getD j12 ([] : List ByteArray)).length))[(0 + j12 * 1)]? = some (C.sr 1 0 1 ((v8.getD j12 ([] : List ByteArray)).length)), ((own (cs (eS eT) v8)).set (0 + j12 * 1) (C.sr 1 0 1 (v8.getD j12 ([] : List ByteArray)).length)).set (0 + j12 * 1) (C.own (V.sl 1 ((v8.getD j12 ([] : List ByteArray)).length) (cs eT (v8.getD j12 ([] : List ByteArray))))) = (own (cs (eS eT) v8)), (own (cs eT (v8.getD j12 ([] : List ByteArray)))) = (cs eT (v8.getD j12 ([] : List ByteArray))).map C.own, 0 + (v8.getD j12 ([] : List ByteArray)).length * 1 ≤ (cs eT (v8.getD j12 ([] : List ByteArray))).length, ((cs eT (v8.getD j12 ([] : List ByteArray))).drop 0).take ((v8.getD j12 ([] : List ByteArray)).length * 1) = (cs eT (v8.getD j12 ([] : List ByteArray))), ((vS eT174 l6) : V) = (vS eT174 l6), (confluent7 : Bool) = confluent7, Value.string r16.1 = Value.string r16.1, (r16.2.2 : Bool) = r16.2.2, Value.string r20.1 = Value.string r20.1, (r20.2.2 : Bool) = r20.2.2, 0 = 0, v8.length = v8.length, (v9 : Int) = v9, (v10 : Int) = v10, (own (cs (eS eT) v8)) = (cs (eS eT) v8).map C.own])
      (by kernel_rfl) ⟨vbB h11, (idx_S h13).1, (idx_S h13).2, own_get (e := (eS eT)) (k := 0) (d := ([] : List ByteArray)) (idx_S h13).2 (by decide) rfl, rfl, (idx_S h15).1, (idx_S h15).2, readC_at (e := eT) (k := 0) (d := ByteArray.empty) (idx_S h15).2 (by decide) rfl, F76.fn_c fuel l6 ((v8.getD j12 ([] : List ByteArray)).getD j14 ByteArray.empty) false _ h17, (idx_S h19).1, (idx_S h19).2, readC_at (e := eT) (k := 0) (d := ByteArray.empty) (idx_S h19).2 (by decide) rfl, F76.fn_c fuel l6 ((v8.getD j12 ([] : List ByteArray)).getD j18 ByteArray.empty) false _ h21, set_get (own_room1 (e := (eS eT)) (k := 0) (idx_S h13).2 (by decide)), (List.set_set ..).trans (set_same (own_get (e := (eS eT)) (k := 0) (d := ([] : List ByteArray)) (idx_S h13).2 (by decide) rfl)), rfl, len_all (e := eT) (rfl), take_cs (e := eT) (rfl), rfl, rfl, rfl, rfl, rfl, rfl, rfl, rfl, rfl, rfl, rfl, trivial⟩ (cut_code ?_)
    refine TW.mono_le (p1_c fuel l6 confluent7 r16.1 r16.2.2 r20.1 r20.2.2 v8 v9 v10 _ h33) ?_
    rintro e st hq
    obtain ⟨rfl, hl⟩ := hq
    refine ⟨_, hl, ?_⟩
    rcases cond_cases h with ⟨h34, h⟩ | ⟨h34, h⟩
    · 
      obtain rfl := Option.some.inj h
      exact runAt_S (Q := Round _ (n + 1) _) (n := 100000) (c := (.out .normal)) (K := K1) (s := (J1_0 l6 confluent7 r16.1 r16.2.2 r20.1 r20.2.2 v8 v9 v10 r32).sl) (e := .ret) (t := J0_0 l6 v8 v9 ()) (l := [])
        (hs := [.g (.env 46 (C.v (vB true)))])
        (ps := [C.v (vB r32) = C.v (vB true), (false : Bool) = false, (false : Bool) = false])
        (by kernel_rfl) ⟨vbB h34, rfl, rfl, trivial⟩ (fun st hl => ⟨rfl, hl⟩)
    · 
      rcases cond_cases h with ⟨h35, h⟩ | ⟨h35, h⟩
      · 
        exact runAt_S (Q := Round _ (n + 1) _) (n := 100000) (c := (.out .normal)) (K := K1) (s := (J1_0 l6 confluent7 r16.1 r16.2.2 r20.1 r20.2.2 v8 v9 v10 r32).sl) (e := .normal) (t := I0 l6 (sEq r16.1 r20.1) v8 v9 (w64 (v10 + 1))) (l := [(0, 0)])
          (hs := [.g (.env 46 (C.v (vB false))), .skip, .skip, .skip, .g (.env 48 (C.v (vB true))), hA, hA])
          (ps := [C.v (vB r32) = C.v (vB false), C.v (vB confluent7) = C.v (vB true), ((vS eT174 l6) : V) = (vS eT174 l6), (sEq r16.1 r20.1 : Bool) = (sEq r16.1 r20.1), 0 = 0, v8.length = v8.length, (v9 : Int) = v9, (w64 (v10 + 1) : Int) = (w64 (v10 + 1)), (own (cs (eS eT) v8)) = (cs (eS eT) v8).map C.own])
          (by kernel_rfl) ⟨vbB h34, vbB h35, rfl, rfl, rfl, rfl, rfl, rfl, rfl, trivial⟩ (fun st hl => ⟨n, _, Nat.lt_succ_self n, hl, (sEq r16.1 r20.1, w64 (v10 + 1)), rfl, rfl, h⟩)
      · 
        exact runAt_S (Q := Round _ (n + 1) _) (n := 100000) (c := (.out .normal)) (K := K1) (s := (J1_0 l6 confluent7 r16.1 r16.2.2 r20.1 r20.2.2 v8 v9 v10 r32).sl) (e := .normal) (t := I0 l6 false v8 v9 (w64 (v10 + 1))) (l := [(0, 0)])
          (hs := [.g (.env 46 (C.v (vB false))), .skip, .skip, .skip, .g (.env 48 (C.v (vB false))), hA])
          (ps := [C.v (vB r32) = C.v (vB false), C.v (vB confluent7) = C.v (vB false), ((vS eT174 l6) : V) = (vS eT174 l6), (false : Bool) = false, 0 = 0, v8.length = v8.length, (v9 : Int) = v9, (w64 (v10 + 1) : Int) = (w64 (v10 + 1)), (own (cs (eS eT) v8)) = (cs (eS eT) v8).map C.own])
          (by kernel_rfl) ⟨vbB h34, vbB h35, rfl, rfl, rfl, rfl, rfl, rfl, rfl, trivial⟩ (fun st hl => ⟨n, _, Nat.lt_succ_self n, hl, (false, w64 (v10 + 1)), rfl, rfl, h⟩)
  · 
    obtain rfl := Option.some.inj h
    exact runAt_S (Q := Round _ (n + 1) _) (n := 100000) (c := (.code L0)) (K := []) (s := (I0 l6 confluent7 v8 v9 v10).sl) (e := (.exit 0)) (t := J0_1 l6 v8 v9 confluent7) (l := [])
      (hs := [hA, .g (.env 20 (C.v (vB false)))])
      (ps := [C.v (vB (decide (v10 < v9))) = C.v (vB false), (confluent7 : Bool) = confluent7])
      (by kernel_rfl) ⟨vbB h11, rfl, trivial⟩ (fun st hl => ⟨rfl, hl⟩)
def fn (fuel : Nat) (l0 : List T174) : Option (Bool × Bool) :=
  (F80.fn fuel l0).bind fun r1 =>
  cond (!r1)
  (some (false, false))
  ((F81.fn fuel l0).bind fun r4 =>
    (p0 fuel l0 r4 (r4.length : Int) fuel true (0 : Int)).bind fun r36 =>
    (Sum.elim (fun y38 => some (false, false))
    (fun y39 => some (y39, true))) r36)
theorem ent : enterable Try.prog 19 = true := by kernel_rfl
theorem fn_c (fuel : Nat) (l0 : List T174) (r : Bool × Bool) (h : fn fuel l0 = some r) : CallOK Try.prog 19 [.ro (vS eT174 l0)] [] (.tp [(vB r.1), (vB r.2)]) := by
  refine contract_run Try.func19 (b := bod Try.f19) rfl ent ?_
  unfold fn at h
  obtain ⟨r1, h2, h⟩ := bind_cases h
  rcases cond_cases h with ⟨h3, h⟩ | ⟨h3, h⟩
  · 
    obtain rfl := Option.some.inj h
    exact runRet_S (r := ⟨Try.f19.results.toList, _, _, _, [], 9⟩) (n := 100000) (c := (.code (bod Try.f19))) (K := [])
      (hs := [.call ⟨[.ro], 9, [], true, [], (vB r1), [], 0⟩, hA, .g (.env 15 (C.v (vB true)))])
      (ps := [CallOK Try.prog 80 [.ro (vS eT174 l0)] [] (vB r1), C.v (vB (!r1)) = C.v (vB true), (V.tp [(vB false), (vB false)]) = V.tp [(vB false), (vB false)]])
      (by kernel_rfl) ⟨F80.fn_c fuel l0 _ h2, vbB h3, rfl, trivial⟩ rfl (fun _ _ h => h)
  · 
    obtain ⟨r4, h5, h⟩ := bind_cases h
    obtain ⟨r36, h37, h⟩ := bind_cases h
    refine runTo_S (n := 100000) (c := (.code (bod Try.f19))) (K := []) (b := (.code (.loop L0))) (K1 := K0) (t := I0 l0 true r4 (r4.length : Int) (0 : Int)) (l := [(0, 0)])
      (hs := [.call ⟨[.ro], 9, [], true, [], (vB r1), [], 0⟩, hA, .g (.env 15 (C.v (vB false))), .call ⟨[.ro], 9, [], true, [], (vS (eS eT) r4), [], 0⟩, hA])
      (ps := [CallOK Try.prog 80 [.ro (vS eT174 l0)] [] (vB r1), C.v (vB (!r1)) = C.v (vB false), CallOK Try.prog 81 [.ro (vS eT174 l0)] [] (vS (eS eT) r4), ((vS eT174 l0) : V) = (vS eT174 l0), (true : Bool) = true, 0 = 0, r4.length = r4.length, ((r4.length : Int) : Int) = (r4.length : Int), (0 : Int) = (0 : Int), (own (cs (eS eT) r4)) = (cs (eS eT) r4).map C.own])
      (by kernel_rfl) ⟨F80.fn_c fuel l0 _ h2, vbB h3, F81.fn_c fuel l0 _ h5, rfl, rfl, rfl, rfl, rfl, rfl, rfl, trivial⟩ (cut_code ?_)
    refine TW.mono_le (p0_c fuel l0 r4 (r4.length : Int) fuel true (0 : Int) _ h37) ?_
    rcases r36 with y38 | y39
    · 
      replace h := sum_l h
      rintro e st hq
      obtain ⟨rfl, hl⟩ := hq
      refine ⟨_, hl, ?_⟩
      obtain rfl := Option.some.inj h
      exact runRet_S (r := ⟨Try.f19.results.toList, _, _, _, [], 9⟩) (n := 100000) (c := (.out .ret)) (K := K0) (s := (J0_0 l0 r4 (r4.length : Int) y38).sl)
        (hs := [])
        (ps := [(V.tp [(vB false), (vB false)]) = V.tp [(vB false), (vB false)]])
        (by kernel_rfl) ⟨rfl, trivial⟩ rfl (fun _ _ h => h)
    · 
      replace h := sum_r h
      rintro e st hq
      obtain ⟨rfl, hl⟩ := hq
      refine ⟨_, hl, ?_⟩
      obtain rfl := Option.some.inj h
      exact runRet_S (r := ⟨Try.f19.results.toList, _, _, _, [], 9⟩) (n := 100000) (c := (.out (.exit 0))) (K := K0) (s := (J0_1 l0 r4 (r4.length : Int) y39).sl)
        (hs := [])
        (ps := [(V.tp [(vB y39), (vB true)]) = V.tp [(vB y39), (vB true)]])
        (by kernel_rfl) ⟨rfl, trivial⟩ rfl (fun _ _ h => h)
end F19
end Go.Eng
