/-
  The engine: how a function's code, run by the model, is followed step by step over told memory. It holds of every program; it has no conditions.
-/
import Derived.WalkKit
import Derived.Orders
import Derived.Deep.MidRow
import Derived.Laws.AppendOwn
set_option linter.unusedVariables false
set_option linter.unusedSimpArgs false
set_option linter.unnecessarySimpa false
namespace Go.Eng
/-! Sets of cells (block, place). -/
abbrev FS := Nat → Nat → Prop
def FS.sub (F G : FS) : Prop := ∀ b o, F b o → G b o
def FS.dis (F G : FS) : Prop := ∀ b o, F b o → G b o → False
def FS.or (F G : FS) : FS := fun b o => F b o ∨ G b o
def FS.none : FS := fun _ _ => False
def chunk (b o n : Nat) : FS := fun b' o' => b' = b ∧ o ≤ o' ∧ o' < o + n
def Free (w : World) (b o n : Nat) : Prop := ∀ j, j < n → (w.cell? ⟨b, o + j, Option.none⟩).isSome = true ∧ w.frozen? ⟨b, o + j, Option.none⟩ = false
def Same (F : FS) (w w' : World) : Prop := ∀ b o, F b o → w'.cell? ⟨b, o, Option.none⟩ = w.cell? ⟨b, o, Option.none⟩ ∧ w'.frozen? ⟨b, o, Option.none⟩ = w.frozen? ⟨b, o, Option.none⟩
theorem Same.refl {F : FS} {w : World} : Same F w w := fun _ _ _ => ⟨rfl, rfl⟩
theorem Same.trans {F : FS} {a b c : World} (h : Same F a b) (k : Same F b c) : Same F a c := fun x o hf => ⟨(k x o hf).1.trans (h x o hf).1, (k x o hf).2.trans (h x o hf).2⟩
theorem Same.mono {F G : FS} {w w' : World} (h : Same G w w') (hs : F.sub G) : Same F w w' := fun b o hf => h b o (hs b o hf)
theorem FS.sub.refl {F : FS} : F.sub F := fun _ _ h => h
theorem FS.sub.trans {F G H : FS} (h : F.sub G) (k : G.sub H) : F.sub H := fun b o x => k b o (h b o x)
theorem FS.dis.symm {F G : FS} (h : F.dis G) : G.dis F := fun b o x y => h b o y x
theorem FS.dis.mono {F G F' G' : FS} (h : F.dis G) (hf : F'.sub F) (hg : G'.sub G) : F'.dis G' := fun b o x y => h b o (hf b o x) (hg b o y)
theorem FS.sub_or_left {F G : FS} : F.sub (F.or G) := fun _ _ h => .inl h
theorem FS.sub_or_right {F G : FS} : G.sub (F.or G) := fun _ _ h => .inr h
theorem FS.or_sub {F G H : FS} (h : F.sub H) (k : G.sub H) : (F.or G).sub H := fun b o x => x.elim (h b o) (k b o)
theorem FS.none_dis {F : FS} : FS.none.dis F := fun _ _ h _ => h
theorem FS.dis_none {F : FS} : F.dis FS.none := fun _ _ _ h => h
theorem FS.none_sub {F : FS} : FS.none.sub F := fun _ _ h => h.elim
theorem FS.or_dis {F G H : FS} (h : F.dis H) (k : G.dis H) : (F.or G).dis H := fun b o x y => x.elim (fun z => h b o z y) (fun z => k b o z y)

/-- Data as trees. sc: a value without memory; sl: a slice (E cells an element); bx: a pointer to a variable; ag: a struct's value; im: a part that nobody writes; fn: a function with what it captured. -/
inductive V where
  | sc (v : Value)
  | sl (E len : Nat) (cells : List V)
  | bx (cells : List V)
  | ag (cells : List V)
  | tp (cells : List V)
  | im (t : V)
  | fn (f : Nat) (caps : List V)

/-! The tree read in cells of S, which stay as they are. -/
mutual
def VI (S : FS) (w : World) : V → Value → Prop
  | .sc v, x => x = v
  | .im t, x => VI S w t x
  | .sl _ len cs, x => ∃ a cap, x = .slice a len cap ∧ len ≤ cap ∧ (cs = [] ∨ ∃ b o, a = some ⟨b, o, none⟩ ∧ CI S w cs b o)
  | .bx cs, x => ∃ b o, x = .pointer (some ⟨b, o, none⟩) ∧ CI S w cs b o
  | .ag cs, x => ∃ vs, x = .agg vs ∧ LI S w cs vs.toList
  | .tp cs, x => ∃ vs, x = .tuple vs ∧ LI S w cs vs.toList
  | .fn f cs, x => ∃ vs, x = .func (.func f) #[] vs ∧ LI S w cs vs.toList
def CI (S : FS) (w : World) : List V → Nat → Nat → Prop
  | [], _, _ => True
  | t :: ts, b, o => (S b o ∧ ∃ x, w.cell? ⟨b, o, none⟩ = some x ∧ VI S w t x) ∧ CI S w ts b (o + 1)
def LI (S : FS) (w : World) : List V → List Value → Prop
  | [], vs => vs = []
  | t :: ts, vs => ∃ x xs, vs = x :: xs ∧ VI S w t x ∧ LI S w ts xs
end
/-! The tree owned: its cells lie in F, apart from each other. -/
mutual
def VO (S : FS) (w : World) : V → Value → FS → Prop
  | .sc v, x, _ => x = v
  | .im t, x, _ => VI S w t x
  | .sl E len cs, x, F => ∃ a cap, x = .slice a len cap ∧ len ≤ cap ∧ ((cap = 0 ∧ cs = []) ∨ ∃ b o G, a = some ⟨b, o, none⟩ ∧ cs.length ≤ cap * E ∧ CO S w cs b o G ∧ (chunk b o (cap * E)).sub F ∧ G.sub F ∧ (chunk b o (cap * E)).dis G ∧ Free w b o (cap * E))
  | .bx cs, x, F => ∃ b o G, x = .pointer (some ⟨b, o, none⟩) ∧ CO S w cs b o G ∧ (chunk b o cs.length).sub F ∧ G.sub F ∧ (chunk b o cs.length).dis G ∧ Free w b o cs.length
  | .ag cs, x, F => ∃ vs, x = .agg vs ∧ LO S w cs vs.toList F
  | .tp cs, x, F => ∃ vs, x = .tuple vs ∧ LO S w cs vs.toList F
  | .fn f cs, x, F => ∃ vs, x = .func (.func f) #[] vs ∧ LO S w cs vs.toList F
def CO (S : FS) (w : World) : List V → Nat → Nat → FS → Prop
  | [], _, _, _ => True
  | t :: ts, b, o, G => ∃ x G1 G2, w.cell? ⟨b, o, none⟩ = some x ∧ VO S w t x G1 ∧ CO S w ts b (o + 1) G2 ∧ G1.dis G2 ∧ G1.sub G ∧ G2.sub G
def LO (S : FS) (w : World) : List V → List Value → FS → Prop
  | [], vs, _ => vs = []
  | t :: ts, vs, F => ∃ x xs F1 F2, vs = x :: xs ∧ VO S w t x F1 ∧ LO S w ts xs F2 ∧ F1.dis F2 ∧ F1.sub F ∧ F2.sub F
end
section
variable {S S' : FS} {w w' : World}
mutual
theorem VI_mono (hs : S.sub S') (hw : Same S w w') : ∀ (t : V) {x : Value}, VI S w t x → VI S' w' t x
  | .sc _, _, h => by simpa only [VI] using h
  | .im t, _, h => by
    simp only [VI] at h ⊢
    exact VI_mono hs hw t h
  | .sl _ _ cs, _, h => by
    simp only [VI] at h ⊢
    obtain ⟨a, cap, hx, hl, h⟩ := h
    exact ⟨a, cap, hx, hl, h.imp id (fun ⟨b, o, ha, hc⟩ => ⟨b, o, ha, CI_mono hs hw cs hc⟩)⟩
  | .bx cs, _, h => by
    simp only [VI] at h ⊢
    obtain ⟨b, o, hx, hc⟩ := h
    exact ⟨b, o, hx, CI_mono hs hw cs hc⟩
  | .ag cs, _, h => by
    simp only [VI] at h ⊢
    obtain ⟨vs, hx, hc⟩ := h
    exact ⟨vs, hx, LI_mono hs hw cs hc⟩
  | .tp cs, _, h => by
    simp only [VI] at h ⊢
    obtain ⟨vs, hx, hc⟩ := h
    exact ⟨vs, hx, LI_mono hs hw cs hc⟩
  | .fn _ cs, _, h => by
    simp only [VI] at h ⊢
    obtain ⟨vs, hx, hc⟩ := h
    exact ⟨vs, hx, LI_mono hs hw cs hc⟩
theorem CI_mono (hs : S.sub S') (hw : Same S w w') : ∀ (cs : List V) {b o : Nat}, CI S w cs b o → CI S' w' cs b o
  | [], _, _, _ => by simp only [CI]
  | t :: ts, b, o, h => by
    simp only [CI] at h ⊢
    obtain ⟨⟨h1, x, h2, h3⟩, h4⟩ := h
    exact ⟨⟨hs _ _ h1, x, ((hw _ _ h1).1).trans h2, VI_mono hs hw t h3⟩, CI_mono hs hw ts h4⟩
theorem LI_mono (hs : S.sub S') (hw : Same S w w') : ∀ (cs : List V) {vs : List Value}, LI S w cs vs → LI S' w' cs vs
  | [], _, h => by simpa only [LI] using h
  | t :: ts, _, h => by
    simp only [LI] at h ⊢
    obtain ⟨x, xs, h1, h2, h3⟩ := h
    exact ⟨x, xs, h1, VI_mono hs hw t h2, LI_mono hs hw ts h3⟩
end
theorem Free.same {F : FS} {b o n : Nat} (h : Free w b o n) (hc : (chunk b o n).sub F) (hw : Same F w w') : Free w' b o n := fun j hj => by
  have h1 := hw b (o + j) (hc _ _ ⟨rfl, by omega, by omega⟩)
  have h2 := h j hj
  exact ⟨by rw [h1.1]; exact h2.1, by rw [h1.2]; exact h2.2⟩
theorem chunk_mono {b o n m : Nat} (h : n ≤ m) : (chunk b o n).sub (chunk b o m) := fun _ _ ⟨h1, h2, h3⟩ => ⟨h1, h2, by omega⟩
mutual
theorem VO_mono (hs : S.sub S') (hw : Same S w w') : ∀ (t : V) {x : Value} {F F' : FS}, F.sub F' → Same F w w' → VO S w t x F → VO S' w' t x F'
  | .sc _, _, _, _, _, _, h => by simpa only [VO] using h
  | .im t, _, _, _, _, _, h => by
    simp only [VO] at h ⊢
    exact VI_mono hs hw t h
  | .sl _ _ cs, _, F, F', hf, hF, h => by
    simp only [VO] at h ⊢
    obtain ⟨a, cap, hx, hl, h⟩ := h
    exact ⟨a, cap, hx, hl, h.imp id (fun ⟨b, o, G, ha, hn, hc, h1, h2, h3, h4⟩ => ⟨b, o, G, ha, hn, CO_mono hs hw cs FS.sub.refl (hF.mono h2) (hF.mono ((chunk_mono hn).trans h1)) hc, h1.trans hf, h2.trans hf, h3, h4.same h1 hF⟩)⟩
  | .bx cs, _, F, F', hf, hF, h => by
    simp only [VO] at h ⊢
    obtain ⟨b, o, G, ha, hc, h1, h2, h3, h4⟩ := h
    exact ⟨b, o, G, ha, CO_mono hs hw cs FS.sub.refl (hF.mono h2) (hF.mono h1) hc, h1.trans hf, h2.trans hf, h3, h4.same h1 hF⟩
  | .ag cs, _, F, F', hf, hF, h => by
    simp only [VO] at h ⊢
    obtain ⟨vs, hx, hc⟩ := h
    exact ⟨vs, hx, LO_mono hs hw cs hf hF hc⟩
  | .tp cs, _, F, F', hf, hF, h => by
    simp only [VO] at h ⊢
    obtain ⟨vs, hx, hc⟩ := h
    exact ⟨vs, hx, LO_mono hs hw cs hf hF hc⟩
  | .fn _ cs, _, F, F', hf, hF, h => by
    simp only [VO] at h ⊢
    obtain ⟨vs, hx, hc⟩ := h
    exact ⟨vs, hx, LO_mono hs hw cs hf hF hc⟩
theorem CO_mono (hs : S.sub S') (hw : Same S w w') : ∀ (cs : List V) {b o : Nat} {G G' : FS}, G.sub G' → Same G w w' → Same (chunk b o cs.length) w w' → CO S w cs b o G → CO S' w' cs b o G'
  | [], _, _, _, _, _, _, _, _ => by simp only [CO]
  | t :: ts, b, o, G, G', hg, hG, hc, h => by
    simp only [CO] at h ⊢
    obtain ⟨x, G1, G2, h1, h2, h3, h4, h5, h6⟩ := h
    refine ⟨x, G1, G2, ?_, VO_mono hs hw t FS.sub.refl (hG.mono h5) h2, CO_mono hs hw ts FS.sub.refl (hG.mono h6) (hc.mono ?_) h3, h4, h5.trans hg, h6.trans hg⟩
    · exact (hc b o ⟨rfl, by omega, by simp⟩).1.trans h1
    · exact fun b' o' ⟨h1, h2, h3⟩ => ⟨h1, by omega, by simp only [List.length_cons]; omega⟩
theorem LO_mono (hs : S.sub S') (hw : Same S w w') : ∀ (cs : List V) {vs : List Value} {F F' : FS}, F.sub F' → Same F w w' → LO S w cs vs F → LO S' w' cs vs F'
  | [], _, _, _, _, _, h => by simpa only [LO] using h
  | t :: ts, _, F, F', hf, hF, h => by
    simp only [LO] at h ⊢
    obtain ⟨x, xs, F1, F2, h1, h2, h3, h4, h5, h6⟩ := h
    exact ⟨x, xs, F1, F2, h1, VO_mono hs hw t FS.sub.refl (hF.mono h5) h2, LO_mono hs hw ts FS.sub.refl (hF.mono h6) h3, h4, h5.trans hf, h6.trans hf⟩
end
/-! What is owned can be read. -/
mutual
theorem VO_VI : ∀ (t : V) {x : Value} {F : FS}, VO S w t x F → (S.or F).sub S' → VI S' w t x
  | .sc _, _, _, h, _ => by simpa only [VO, VI] using h
  | .im t, _, _, h, hs => by
    simp only [VO, VI] at h ⊢
    exact VI_mono (FS.sub_or_left.trans hs) Same.refl t h
  | .sl _ _ cs, _, F, h, hs => by
    simp only [VO, VI] at h ⊢
    obtain ⟨a, cap, hx, hl, h⟩ := h
    refine ⟨a, cap, hx, hl, h.imp (fun h => h.2) (fun ⟨b, o, G, ha, hn, hc, h1, h2, h3, h4⟩ => ⟨b, o, ha, CO_CI cs hc ?_ ?_⟩)⟩
    · exact FS.or_sub (FS.sub_or_left.trans hs) (h2.trans (FS.sub_or_right.trans hs))
    · exact (chunk_mono hn).trans (h1.trans (FS.sub_or_right.trans hs))
  | .bx cs, _, F, h, hs => by
    simp only [VO, VI] at h ⊢
    obtain ⟨b, o, G, ha, hc, h1, h2, h3, h4⟩ := h
    exact ⟨b, o, ha, CO_CI cs hc (FS.or_sub (FS.sub_or_left.trans hs) (h2.trans (FS.sub_or_right.trans hs))) (h1.trans (FS.sub_or_right.trans hs))⟩
  | .ag cs, _, F, h, hs => by
    simp only [VO, VI] at h ⊢
    obtain ⟨vs, hx, hc⟩ := h
    exact ⟨vs, hx, LO_LI cs hc hs⟩
  | .tp cs, _, F, h, hs => by
    simp only [VO, VI] at h ⊢
    obtain ⟨vs, hx, hc⟩ := h
    exact ⟨vs, hx, LO_LI cs hc hs⟩
  | .fn _ cs, _, F, h, hs => by
    simp only [VO, VI] at h ⊢
    obtain ⟨vs, hx, hc⟩ := h
    exact ⟨vs, hx, LO_LI cs hc hs⟩
theorem CO_CI : ∀ (cs : List V) {b o : Nat} {G : FS}, CO S w cs b o G → (S.or G).sub S' → (chunk b o cs.length).sub S' → CI S' w cs b o
  | [], _, _, _, _, _, _ => by simp only [CI]
  | t :: ts, b, o, G, h, hs, hc => by
    simp only [CO, CI] at h ⊢
    obtain ⟨x, G1, G2, h1, h2, h3, h4, h5, h6⟩ := h
    refine ⟨⟨hc _ _ ⟨rfl, by omega, by simp⟩, x, h1, VO_VI t h2 ?_⟩, CO_CI ts h3 ?_ ?_⟩
    · exact FS.or_sub (FS.sub_or_left.trans hs) (h5.trans (FS.sub_or_right.trans hs))
    · exact FS.or_sub (FS.sub_or_left.trans hs) (h6.trans (FS.sub_or_right.trans hs))
    · exact fun b' o' ⟨h1, h2, h3⟩ => hc _ _ ⟨h1, by omega, by simp only [List.length_cons]; omega⟩
theorem LO_LI : ∀ (cs : List V) {vs : List Value} {F : FS}, LO S w cs vs F → (S.or F).sub S' → LI S' w cs vs
  | [], _, _, h, _ => by simpa only [LO, LI] using h
  | t :: ts, _, F, h, hs => by
    simp only [LO, LI] at h ⊢
    obtain ⟨x, xs, F1, F2, h1, h2, h3, h4, h5, h6⟩ := h
    exact ⟨x, xs, h1, VO_VI t h2 (FS.or_sub (FS.sub_or_left.trans hs) (h5.trans (FS.sub_or_right.trans hs))), LO_LI ts h3 (FS.or_sub (FS.sub_or_left.trans hs) (h6.trans (FS.sub_or_right.trans hs)))⟩
end
end
end Go.Eng
namespace Go.Eng
/-- What a slot or a cell of a row holds: v: data that nobody writes; own: data of the row's own; sr: a slice of row r from a place on; pr: a pointer into row r. -/
inductive C where
  | v (t : V)
  | own (t : V)
  | sr (r off E len : Nat)
  | pr (r off : Nat)
  | ag (cs : List C)
  | tp (cs : List C)
  | fn (f : Nat) (cs : List C)
  | dead
structure Row where
  cells : List C
structure St where
  N : Nat
  args : List C
  env : Nat → Option C
  rows : Nat → Option Row
  used : Nat → Bool
/-- Where a row lies: block, place, how many cells. -/
structure Pl where
  b : Nat
  o : Nat
  ext : Nat
mutual
def C.ok (u : Nat → Bool) : C → Prop
  | .v _ | .own _ | .dead => True
  | .sr r _ _ _ | .pr r _ => u r = true
  | .ag cs | .tp cs | .fn _ cs => C.okL u cs
def C.okL (u : Nat → Bool) : List C → Prop
  | [] => True
  | c :: cs => C.ok u c ∧ C.okL u cs
end
mutual
def CR (S : FS) (w : World) (pl : Nat → Option Pl) : C → Value → Prop
  | .v t, x => VI S w t x
  | .own _, _ => False
  | .sr r off E len, x => ∃ a cap, x = .slice a len cap ∧ len ≤ cap ∧ ∀ p, pl r = some p → (cap = 0 ∨ (a = some ⟨p.b, p.o + off, none⟩ ∧ off + cap * E ≤ p.ext))
  | .pr r off, x => ∃ a, x = .pointer (some a) ∧ ∀ p, pl r = some p → a = ⟨p.b, p.o + off, none⟩
  | .ag cs, x => ∃ vs, x = .agg vs ∧ CRL S w pl cs vs.toList
  | .tp cs, x => ∃ vs, x = .tuple vs ∧ CRL S w pl cs vs.toList
  | .fn f cs, x => ∃ vs, x = .func (.func f) #[] vs ∧ CRL S w pl cs vs.toList
  | .dead, _ => True
def CRL (S : FS) (w : World) (pl : Nat → Option Pl) : List C → List Value → Prop
  | [], vs => vs = []
  | c :: cs, vs => ∃ x xs, vs = x :: xs ∧ CR S w pl c x ∧ CRL S w pl cs xs
end
def CellR (S : FS) (w : World) (pl : Nat → Option Pl) : C → Value → FS → Prop
  | .own t, x, G => VO S w t x G
  | c, x, _ => CR S w pl c x
def RowR (S : FS) (w : World) (pl : Nat → Option Pl) : List C → Nat → Nat → FS → Prop
  | [], _, _, _ => True
  | c :: cs, b, o, G => ∃ x G1 G2, w.cell? ⟨b, o, none⟩ = some x ∧ CellR S w pl c x G1 ∧ RowR S w pl cs b (o + 1) G2 ∧ G1.dis G2 ∧ G1.sub G ∧ G2.sub G
def plOf (rows : Nat → Option Row) (ρ : Nat → Pl) : Nat → Option Pl := fun r => match rows r with | some _ => some (ρ r) | none => none
def Pl.fs (p : Pl) : FS := chunk p.b p.o p.ext
structure Mem (S K : FS) (B : Nat) (rows : Nat → Option Row) (used : Nat → Bool) (ρ : Nat → Pl) (Fp : Nat → FS) (w : World) : Prop where
  row : ∀ r row, rows r = some row → ∃ G, RowR S w (plOf rows ρ) row.cells (ρ r).b (ρ r).o G ∧ row.cells.length ≤ (ρ r).ext ∧ (ρ r).fs.sub (Fp r) ∧ G.sub (Fp r) ∧ (ρ r).fs.dis G ∧ Free w (ρ r).b (ρ r).o (ρ r).ext
  sep : ∀ r r' row row', r ≠ r' → rows r = some row → rows r' = some row' → (Fp r).dis (Fp r')
  kdis : ∀ r row, rows r = some row → (Fp r).dis K
  low : ∀ r row, rows r = some row → ∀ b o, Fp r b o → B ≤ b ∧ b < w.heap.size
  okc : ∀ r row, rows r = some row → used r = true ∧ C.okL used row.cells
/-- What stays the same while a function runs: what nobody writes (S), what must be as it was (K), the first block of the law's own (B), the world at the call (w0). -/
structure Ctx where
  S : FS
  K : FS
  B : Nat
  w0 : World
  av : List Value
def Env (S : FS) (w : World) (pl : Nat → Option Pl) (used : Nat → Bool) (st : St) (av : List Value) (a : Act) : Prop := (∀ k c, st.env k = some c → ∃ x, a.tmps[k]? = some x ∧ CR S w pl c x ∧ C.ok used c) ∧ CRL S w pl st.args av ∧ C.okL used st.args
structure R (X : Ctx) (st : St) (a : Act) (w : World) : Prop where
  mem : ∃ ρ Fp, Mem X.S X.K X.B st.rows st.used ρ Fp w ∧ Env X.S w (plOf st.rows ρ) st.used st X.av a
  nodef : a.defers = []
  size : a.tmps.size = st.N
  below : RowKit.Below X.B X.w0 w
  keep : Same X.K X.w0 w
  hsub : X.S.sub X.K
  hk : ∀ b o, X.K b o → b < X.w0.heap.size
  hB : X.B ≤ X.w0.heap.size
section
variable {S S' K : FS} {w w' : World} {pl pl' : Nat → Option Pl}
mutual
theorem CR_mono (hs : S.sub S') (hw : Same S w w') : ∀ (c : C) {u : Nat → Bool} {x : Value}, (∀ r p, u r = true → pl' r = some p → pl r = some p) → C.ok u c → CR S w pl c x → CR S' w' pl' c x
  | .v t, _, _, _, _, h => by
    simp only [CR] at h ⊢
    exact VI_mono hs hw t h
  | .own _, _, _, _, _, h => by simp only [CR] at h
  | .sr r off E len, _, _, hp, hk, h => by
    simp only [CR, C.ok] at h hk ⊢
    obtain ⟨a, cap, h1, h2, h3⟩ := h
    exact ⟨a, cap, h1, h2, fun p hq => h3 p (hp r p hk hq)⟩
  | .pr r off, _, _, hp, hk, h => by
    simp only [CR, C.ok] at h hk ⊢
    obtain ⟨a, h1, h3⟩ := h
    exact ⟨a, h1, fun p hq => h3 p (hp r p hk hq)⟩
  | .ag cs, _, _, hp, hk, h => by
    simp only [CR, C.ok] at h hk ⊢
    obtain ⟨vs, h1, h2⟩ := h
    exact ⟨vs, h1, CRL_mono hs hw cs hp hk h2⟩
  | .tp cs, _, _, hp, hk, h => by
    simp only [CR, C.ok] at h hk ⊢
    obtain ⟨vs, h1, h2⟩ := h
    exact ⟨vs, h1, CRL_mono hs hw cs hp hk h2⟩
  | .fn f cs, _, _, hp, hk, h => by
    simp only [CR, C.ok] at h hk ⊢
    obtain ⟨vs, h1, h2⟩ := h
    exact ⟨vs, h1, CRL_mono hs hw cs hp hk h2⟩
  | .dead, _, _, _, _, _ => by simp only [CR]
theorem CRL_mono (hs : S.sub S') (hw : Same S w w') : ∀ (cs : List C) {u : Nat → Bool} {vs : List Value}, (∀ r p, u r = true → pl' r = some p → pl r = some p) → C.okL u cs → CRL S w pl cs vs → CRL S' w' pl' cs vs
  | [], _, _, _, _, h => by simpa only [CRL] using h
  | c :: cs, _, _, hp, hk, h => by
    simp only [CRL, C.okL] at h hk ⊢
    obtain ⟨x, xs, h1, h2, h3⟩ := h
    exact ⟨x, xs, h1, CR_mono hs hw c hp hk.1 h2, CRL_mono hs hw cs hp hk.2 h3⟩
end
theorem CellR_mono (hs : S.sub S') (hw : Same S w w') {c : C} {u : Nat → Bool} {x : Value} {G G' : FS} (hp : ∀ r p, u r = true → pl' r = some p → pl r = some p) (hk : C.ok u c) (hg : G.sub G') (hG : Same G w w') (h : CellR S w pl c x G) : CellR S' w' pl' c x G' := by
  cases c with
  | own t => exact VO_mono hs hw t hg hG h
  | _ => exact CR_mono hs hw _ hp hk h
theorem RowR_mono (hs : S.sub S') (hw : Same S w w') : ∀ (cs : List C) {u : Nat → Bool} {b o : Nat} {G G' : FS}, (∀ r p, u r = true → pl' r = some p → pl r = some p) → C.okL u cs → G.sub G' → Same G w w' → (∀ j, j < cs.length → w'.cell? ⟨b, o + j, none⟩ = w.cell? ⟨b, o + j, none⟩) → RowR S w pl cs b o G → RowR S' w' pl' cs b o G'
  | [], _, _, _, _, _, _, _, _, _, _, _ => by simp only [RowR]
  | c :: cs, u, b, o, G, G', hp, hk, hg, hG, hc, h => by
    simp only [RowR, C.okL] at h hk ⊢
    obtain ⟨x, G1, G2, h1, h2, h3, h4, h5, h6⟩ := h
    refine ⟨x, G1, G2, ?_, CellR_mono hs hw hp hk.1 FS.sub.refl (hG.mono h5) h2, RowR_mono hs hw cs hp hk.2 FS.sub.refl (hG.mono h6) ?_ h3, h4, h5.trans hg, h6.trans hg⟩
    · exact (hc 0 (by simp)).trans h1
    · intro j hj
      have := hc (j + 1) (by simp only [List.length_cons]; omega)
      rwa [show o + (j + 1) = o + 1 + j by omega] at this
theorem CO_RowR {b : Nat} : ∀ (cs : List V) {o : Nat} {G : FS}, CO S w cs b o G → RowR S w pl (cs.map C.own) b o G
  | [], _, _, _ => by simp only [List.map_nil, RowR]
  | t :: ts, o, G, h => by
    simp only [List.map_cons, RowR, CO] at h ⊢
    obtain ⟨x, G1, G2, h1, h2, h3, h4, h5, h6⟩ := h
    exact ⟨x, G1, G2, h1, h2, CO_RowR ts h3, h4, h5, h6⟩
theorem RowR_get : ∀ (cs : List C) {b o : Nat} {G : FS} {i : Nat} {c : C}, RowR S w pl cs b o G → cs[i]? = some c → ∃ x G1, w.cell? ⟨b, o + i, none⟩ = some x ∧ CellR S w pl c x G1 ∧ G1.sub G
  | [], _, _, _, _, _, _, hi => by simp at hi
  | c :: cs, b, o, G, 0, c', h, hi => by
    simp only [RowR] at h
    obtain ⟨x, G1, G2, h1, h2, h3, h4, h5, h6⟩ := h
    simp only [List.getElem?_cons_zero, Option.some.injEq] at hi
    subst hi
    exact ⟨x, G1, h1, h2, h5⟩
  | c :: cs, b, o, G, i + 1, c', h, hi => by
    simp only [RowR] at h
    obtain ⟨x, G1, G2, h1, h2, h3, h4, h5, h6⟩ := h
    simp only [List.getElem?_cons_succ] at hi
    obtain ⟨y, H, k1, k2, k3⟩ := RowR_get cs h3 hi
    exact ⟨y, H, by rw [show o + (i + 1) = o + 1 + i by omega]; exact k1, k2, k3.trans h6⟩
end
end Go.Eng
namespace Go.Eng
def upd {α : Type} (f : Nat → α) (k : Nat) (v : α) : Nat → α := fun j => if j = k then v else f j
@[simp] theorem upd_self {α : Type} (f : Nat → α) (k : Nat) (v : α) : upd f k v k = v := by simp [upd]
theorem upd_ne {α : Type} {f : Nat → α} {k j : Nat} {v : α} (h : j ≠ k) : upd f k v j = f j := by simp [upd, h]
section
variable {S S' K : FS} {B : Nat} {w w' : World} {rows : Nat → Option Row} {used : Nat → Bool} {ρ : Nat → Pl} {Fp : Nat → FS}
theorem plOf_some {r : Nat} {row : Row} (h : rows r = some row) : plOf rows ρ r = some (ρ r) := by simp [plOf, h]
theorem plOf_none {r : Nat} (h : rows r = none) : plOf rows ρ r = none := by simp [plOf, h]
theorem plOf_upd_some {r : Nat} {row row' : Row} (h : rows r = some row) : plOf (upd rows r (some row')) ρ = plOf rows ρ := by
  funext j
  by_cases hj : j = r
  · subst hj; simp [plOf, h]
  · simp [plOf, upd_ne hj]
theorem plOf_del {r : Nat} : ∀ j p, plOf (upd rows r none) ρ j = some p → plOf rows ρ j = some p := by
  intro j p h
  by_cases hj : j = r
  · subst hj; simp [plOf] at h
  · simpa [plOf, upd_ne hj] using h
theorem plOf_new {r : Nat} {row : Row} {p : Pl} (hu : used r = false) : ∀ j q, used j = true → plOf (upd rows r (some row)) (upd ρ r p) j = some q → plOf rows ρ j = some q := by
  intro j q hj h
  have hne : j ≠ r := by rintro rfl; rw [hu] at hj; cases hj
  simpa [plOf, upd_ne hne] using h
theorem used_upd {r : Nat} : ∀ j, used j = true → upd used r true j = true := by
  intro j h
  by_cases hj : j = r
  · subst hj; simp
  · rw [upd_ne hj]; exact h
mutual
theorem ok_mono {u u' : Nat → Bool} (h : ∀ j, u j = true → u' j = true) : ∀ c : C, C.ok u c → C.ok u' c
  | .v _, _ | .own _, _ | .dead, _ => by simp only [C.ok]
  | .sr r _ _ _, k | .pr r _, k => by simp only [C.ok] at k ⊢; exact h r k
  | .ag cs, k | .tp cs, k | .fn _ cs, k => by simp only [C.ok] at k ⊢; exact okL_mono h cs k
theorem okL_mono {u u' : Nat → Bool} (h : ∀ j, u j = true → u' j = true) : ∀ cs : List C, C.okL u cs → C.okL u' cs
  | [], _ => by simp only [C.okL]
  | c :: cs, k => by
    simp only [C.okL] at k ⊢
    exact ⟨ok_mono h c k.1, okL_mono h cs k.2⟩
end
theorem okL_get {u : Nat → Bool} : ∀ {cs : List C} {i : Nat} {c : C}, C.okL u cs → cs[i]? = some c → C.ok u c
  | [], _, _, _, h => by simp at h
  | c :: cs, 0, _, k, h => by
    simp only [C.okL, List.getElem?_cons_zero, Option.some.injEq] at k h
    exact h ▸ k.1
  | c :: cs, i + 1, _, k, h => by
    simp only [C.okL, List.getElem?_cons_succ] at k h
    exact okL_get k.2 h
theorem okL_set {u : Nat → Bool} : ∀ {cs : List C} {i : Nat} {c : C}, C.okL u cs → C.ok u c → C.okL u (cs.set i c)
  | [], _, _, _, _ => by simp [C.okL]
  | c :: cs, 0, _, k, h => by
    simp only [C.okL, List.set_cons_zero] at k ⊢
    exact ⟨h, k.2⟩
  | c :: cs, i + 1, _, k, h => by
    simp only [C.okL, List.set_cons_succ] at k ⊢
    exact ⟨k.1, okL_set k.2 h⟩
theorem okL_append {u : Nat → Bool} : ∀ {cs ds : List C}, C.okL u (cs ++ ds) ↔ C.okL u cs ∧ C.okL u ds
  | [], ds => by simp [C.okL]
  | c :: cs, ds => by simp only [List.cons_append, C.okL, okL_append, and_assoc]
theorem okL_iff {u : Nat → Bool} : ∀ {cs : List C}, C.okL u cs ↔ ∀ c ∈ cs, C.ok u c
  | [] => by simp [C.okL]
  | c :: cs => by simp only [C.okL, okL_iff (cs := cs), List.forall_mem_cons]
/-- One cell of a row is written, by a value without a footprint. -/
theorem RowR_set {pl : Nat → Option Pl} {u : Nat → Bool} : ∀ (cs : List C) {b o : Nat} {G : FS} {i : Nat} {c' : C} {y : Value}, C.okL u cs → RowR S w pl cs b o G → w'.cell? ⟨b, o + i, none⟩ = some y → CellR S w' pl c' y FS.none →
    (∀ j, j < cs.length → j ≠ i → w'.cell? ⟨b, o + j, none⟩ = w.cell? ⟨b, o + j, none⟩) → Same G w w' → Same S w w' → RowR S w' pl (cs.set i c') b o G
  | [], _, _, _, _, _, _, _, _, _, _, _, _, _ => by simp only [List.set_nil, RowR]
  | c :: cs, b, o, G, 0, c', y, hk, h, hy, hc, hj, hG, hS => by
    simp only [RowR, C.okL, List.set_cons_zero] at h hk ⊢
    obtain ⟨x, G1, G2, h1, h2, h3, h4, h5, h6⟩ := h
    refine ⟨y, FS.none, G2, by simpa using hy, hc, RowR_mono FS.sub.refl hS cs (u := u) (fun r p _ => id) hk.2 FS.sub.refl (hG.mono h6) (fun j hjl => ?_) h3, FS.none_dis, FS.none_sub, h6⟩
    have := hj (j + 1) (by simp only [List.length_cons]; omega) (by omega)
    rwa [show o + (j + 1) = o + 1 + j by omega] at this
  | c :: cs, b, o, G, i + 1, c', y, hk, h, hy, hc, hj, hG, hS => by
    simp only [RowR, C.okL, List.set_cons_succ] at h hk ⊢
    obtain ⟨x, G1, G2, h1, h2, h3, h4, h5, h6⟩ := h
    refine ⟨x, G1, G2, ?_, CellR_mono FS.sub.refl hS (u := u) (fun r p _ => id) hk.1 FS.sub.refl (hG.mono h5) h2, RowR_set cs (y := y) hk.2 h3 ?_ hc (fun j hjl hne => ?_) (hG.mono h6) hS, h4, h5, h6⟩
    · have := hj 0 (by simp) (by omega)
      simpa [h1] using this
    · rwa [show o + 1 + i = o + (i + 1) by omega]
    · have := hj (j + 1) (by simp only [List.length_cons]; omega) (by omega)
      rwa [show o + (j + 1) = o + 1 + j by omega] at this
/-- The cell i taken out (its footprint stands apart), another relation at its place; the world stays. -/
theorem RowR_take {pl : Nat → Option Pl} : ∀ (cs : List C) {b o : Nat} {G : FS} {i : Nat} {c : C}, RowR S w pl cs b o G → cs[i]? = some c →
    ∃ x G1 G2, w.cell? ⟨b, o + i, none⟩ = some x ∧ CellR S w pl c x G1 ∧ G1.dis G2 ∧ G1.sub G ∧ G2.sub G ∧ ∀ c' G1', CellR S w pl c' x G1' → G1'.dis G2 → RowR S w pl (cs.set i c') b o (G1'.or G2)
  | [], _, _, _, _, _, _, hi => by simp at hi
  | c :: cs, b, o, G, 0, c', h, hi => by
    simp only [RowR] at h
    obtain ⟨x, G1, G2, h1, h2, h3, h4, h5, h6⟩ := h
    simp only [List.getElem?_cons_zero, Option.some.injEq] at hi
    subst hi
    refine ⟨x, G1, G2, h1, h2, h4, h5, h6, fun c' G1' hc hd => ?_⟩
    simp only [RowR, List.set_cons_zero]
    exact ⟨x, G1', G2, h1, hc, h3, hd, FS.sub_or_left, FS.sub_or_right⟩
  | c :: cs, b, o, G, i + 1, c', h, hi => by
    simp only [RowR] at h
    obtain ⟨x, G1, G2, h1, h2, h3, h4, h5, h6⟩ := h
    simp only [List.getElem?_cons_succ] at hi
    obtain ⟨y, H1, H2, k1, k2, k3, k4, k5, k6⟩ := RowR_take cs h3 hi
    refine ⟨y, H1, G1.or H2, by rw [show o + (i + 1) = o + 1 + i by omega]; exact k1, k2, ?_, k4.trans h6, FS.or_sub h5 (k5.trans h6), fun c' G1' hc hd => ?_⟩
    · exact fun b o hx hy => hy.elim (fun z => h4 b o z (k4 b o hx)) (fun z => k3 b o hx z)
    · simp only [RowR, List.set_cons_succ]
      refine ⟨x, G1, G1'.or H2, h1, h2, k6 c' G1' hc (hd.mono FS.sub.refl FS.sub_or_right), ?_, ?_, ?_⟩
      · exact fun b o hx hy => hy.elim (fun z => hd b o z (.inl hx)) (fun z => h4 b o hx (k5 b o z))
      · exact FS.sub_or_left.trans FS.sub_or_right
      · exact FS.or_sub FS.sub_or_left (FS.sub_or_right.trans FS.sub_or_right)
theorem RowR_fs {pl : Nat → Option Pl} : ∀ (cs : List C) {b o : Nat} {G G' : FS}, G.sub G' → RowR S w pl cs b o G → RowR S w pl cs b o G'
  | [], _, _, _, _, _, _ => by simp only [RowR]
  | c :: cs, b, o, G, G', hg, h => by
    simp only [RowR] at h ⊢
    obtain ⟨x, G1, G2, h1, h2, h3, h4, h5, h6⟩ := h
    exact ⟨x, G1, G2, h1, h2, h3, h4, h5.trans hg, h6.trans hg⟩
theorem RowR_append {pl : Nat → Option Pl} : ∀ (cs ds : List C) {b o : Nat} {G H : FS}, RowR S w pl cs b o G → RowR S w pl ds b (o + cs.length) H → G.dis H → RowR S w pl (cs ++ ds) b o (G.or H)
  | [], ds, b, o, G, H, _, h, _ => by simpa using RowR_fs ds FS.sub_or_right h
  | c :: cs, ds, b, o, G, H, h, hd, hs => by
    simp only [RowR, List.cons_append] at h ⊢
    obtain ⟨x, G1, G2, h1, h2, h3, h4, h5, h6⟩ := h
    refine ⟨x, G1, G2.or H, h1, h2, RowR_append cs ds h3 (by rw [List.length_cons] at hd; rwa [show o + 1 + cs.length = o + (cs.length + 1) by omega]) (hs.mono h6 FS.sub.refl), ?_, h5.trans FS.sub_or_left, FS.or_sub (h6.trans FS.sub_or_left) FS.sub_or_right⟩
    exact fun b o hx hy => hy.elim (fun z => h4 b o hx z) (fun z => hs b o (h5 b o hx) z)
theorem RowR_split {pl : Nat → Option Pl} : ∀ (cs ds : List C) {b o : Nat} {G : FS}, RowR S w pl (cs ++ ds) b o G → ∃ G1 G2, RowR S w pl cs b o G1 ∧ RowR S w pl ds b (o + cs.length) G2 ∧ G1.dis G2 ∧ G1.sub G ∧ G2.sub G
  | [], ds, b, o, G, h => ⟨FS.none, G, by simp only [RowR], by simpa using h, FS.none_dis, FS.none_sub, FS.sub.refl⟩
  | c :: cs, ds, b, o, G, h => by
    simp only [RowR, List.cons_append] at h ⊢
    obtain ⟨x, G1, G2, h1, h2, h3, h4, h5, h6⟩ := h
    obtain ⟨H1, H2, k1, k2, k3, k4, k5⟩ := RowR_split cs ds h3
    refine ⟨G1.or H1, H2, ⟨x, G1, H1, h1, h2, k1, h4.mono FS.sub.refl k4, FS.sub_or_left, FS.sub_or_right⟩, by rw [List.length_cons]; rwa [show o + (cs.length + 1) = o + 1 + cs.length by omega], ?_, FS.or_sub h5 (k4.trans h6), k5.trans h6⟩
    exact fun b o hx hy => hx.elim (fun z => h4 b o z (k5 b o hy)) (fun z => k3 b o z hy)
/-! The memory: a row taken out, put in, the world changed elsewhere. -/
theorem Mem.del (h : Mem S K B rows used ρ Fp w) (r : Nat) : Mem S K B (upd rows r none) used ρ Fp w where
  row := fun j row hj => by
    have hne : j ≠ r := by rintro rfl; simp at hj
    rw [upd_ne hne] at hj
    obtain ⟨G, h1, h2, h3, h4, h5, h6⟩ := h.row j row hj
    refine ⟨G, ?_, h2, h3, h4, h5, h6⟩
    exact RowR_mono FS.sub.refl Same.refl _ (fun r p _ hp => plOf_del r p hp) (h.okc j row hj).2 FS.sub.refl Same.refl (fun _ _ => rfl) h1
  sep := fun i j row row' hij hi hj => by
    have hne : i ≠ r := by rintro rfl; simp at hi
    have hne' : j ≠ r := by rintro rfl; simp at hj
    rw [upd_ne hne] at hi
    rw [upd_ne hne'] at hj
    exact h.sep i j row row' hij hi hj
  kdis := fun i row hi => by
    have hne : i ≠ r := by rintro rfl; simp at hi
    rw [upd_ne hne] at hi
    exact h.kdis i row hi
  low := fun i row hi => by
    have hne : i ≠ r := by rintro rfl; simp at hi
    rw [upd_ne hne] at hi
    exact h.low i row hi
  okc := fun i row hi => by
    have hne : i ≠ r := by rintro rfl; simp at hi
    rw [upd_ne hne] at hi
    exact h.okc i row hi
/-- A row more, at a number that was never used. -/
theorem Mem.add (h : Mem S K B rows used ρ Fp w) {r : Nat} (hr : used r = false) {p : Pl} {F G : FS} {row : Row} (hrow : RowR S w (plOf rows ρ) row.cells p.b p.o G) (hk : C.okL used row.cells) (hl : row.cells.length ≤ p.ext) (hc : p.fs.sub F) (hg : G.sub F) (hd : p.fs.dis G)
    (hf : Free w p.b p.o p.ext) (hs : ∀ j row', rows j = some row' → F.dis (Fp j)) (hK : F.dis K) (hB : ∀ b o, F b o → B ≤ b ∧ b < w.heap.size) : Mem S K B (upd rows r (some row)) (upd used r true) (upd ρ r p) (upd Fp r F) w where
  row := fun j row' hj => by
    by_cases hne : j = r
    · subst hne
      simp only [upd_self, Option.some.injEq] at hj ⊢
      subst hj
      exact ⟨G, RowR_mono FS.sub.refl Same.refl _ (plOf_new hr) hk FS.sub.refl Same.refl (fun _ _ => rfl) hrow, hl, hc, hg, hd, hf⟩
    · rw [upd_ne hne] at hj
      rw [upd_ne hne, upd_ne hne]
      obtain ⟨G, h1, h2, h3, h4, h5, h6⟩ := h.row j row' hj
      exact ⟨G, RowR_mono FS.sub.refl Same.refl _ (plOf_new hr) (h.okc j row' hj).2 FS.sub.refl Same.refl (fun _ _ => rfl) h1, h2, h3, h4, h5, h6⟩
  sep := fun i j row' row'' hij hi hj => by
    by_cases hi' : i = r
    · subst hi'
      have hj' : j ≠ i := fun e => hij e.symm
      rw [upd_ne hj'] at hj
      rw [upd_self, upd_ne hj']
      exact hs j row'' hj
    · rw [upd_ne hi'] at hi
      by_cases hj' : j = r
      · subst hj'
        rw [upd_self, upd_ne hi']
        exact (hs i row' hi).symm
      · rw [upd_ne hj'] at hj
        rw [upd_ne hi', upd_ne hj']
        exact h.sep i j row' row'' hij hi hj
  kdis := fun i row' hi => by
    by_cases hi' : i = r
    · subst hi'; rw [upd_self]; exact hK
    · rw [upd_ne hi'] at hi ⊢
      exact h.kdis i row' hi
  low := fun i row' hi => by
    by_cases hi' : i = r
    · subst hi'; rw [upd_self]; exact hB
    · rw [upd_ne hi'] at hi ⊢
      exact h.low i row' hi
  okc := fun i row' hi => by
    by_cases hi' : i = r
    · subst hi'
      simp only [upd_self, Option.some.injEq] at hi ⊢
      subst hi
      exact ⟨trivial, okL_mono used_upd _ hk⟩
    · rw [upd_ne hi'] at hi
      exact ⟨used_upd _ (h.okc i row' hi).1, okL_mono used_upd _ (h.okc i row' hi).2⟩
/-- The world changes where no row lies. -/
theorem Mem.world (h : Mem S K B rows used ρ Fp w) (hS : Same S w w') (hF : ∀ r row, rows r = some row → Same (Fp r) w w') (hz : w.heap.size ≤ w'.heap.size) : Mem S K B rows used ρ Fp w' where
  row := fun j row hj => by
    obtain ⟨G, h1, h2, h3, h4, h5, h6⟩ := h.row j row hj
    have hc := (hF j row hj).mono h3
    refine ⟨G, RowR_mono FS.sub.refl hS _ (fun r p _ => id) (h.okc j row hj).2 FS.sub.refl ((hF j row hj).mono h4) (fun i hi => (hc _ _ ⟨rfl, by omega, by omega⟩).1) h1, h2, h3, h4, h5, h6.same FS.sub.refl hc⟩
  sep := h.sep
  kdis := h.kdis
  low := fun i row hi b o hf => ⟨(h.low i row hi b o hf).1, Nat.lt_of_lt_of_le (h.low i row hi b o hf).2 hz⟩
  okc := h.okc
end
end Go.Eng
namespace Go.Eng
open Go.RowKit (Below)
def St.put (st : St) (dst : Option Tmp) (c : C) : St := match dst with | some d => { st with env := upd st.env d (some c) } | none => st
def St.fits (st : St) (dst : Option Tmp) : Prop := ∀ d, dst = some d → d < st.N
def St.ev (st : St) : Operand → Option C
  | .tmp t => st.env t
  | .const v => some (.v (.sc v))
  | .func f => some (.fn f [])
  | .global _ => none
/-- The operation goes on to st'. -/
def Goes (P : Program) (X : Ctx) (o : Oper) (a : Act) (w : World) (st' : St) : Prop := ∀ Q, Oper.wp P o a w (fun a' w' => R X st' a' w') Q
section
variable {P : Program} {X : Ctx} {o : Oper} {st st' : St} {a : Act} {w w' : World} {S : FS} {pl : Nat → Option Pl} {used : Nat → Bool} {av : List Value}
theorem goes_value {v : Value} (h : (execOp a.eval o).run P w = .ok (.value v) w') (hr : R X st' (a.put o.dst v) w') : Goes P X o a w st' := fun Q => by
  unfold Oper.wp
  rw [h]
  exact hr
theorem goes_skip (h : (execOp a.eval o).run P w = .ok .skip w') (hr : R X st' (a.put o.dst undef) w') : Goes P X o a w st' := fun Q => by
  unfold Oper.wp
  rw [h]
  exact hr
theorem ev_eval (he : Env S w pl used st av a) {x : Operand} {c : C} (h : st.ev x = some c) : CR S w pl c (a.eval x) ∧ C.ok used c := by
  cases x with
  | tmp t =>
    obtain ⟨v, h1, h2, h3⟩ := he.1 t c h
    simp only [Act.eval, Array.getD_eq_getD_getElem?, h1, Option.getD_some]
    exact ⟨h2, h3⟩
  | const v =>
    simp only [St.ev, Option.some.injEq] at h
    subst h
    simp only [CR, VI, Act.eval, C.ok, and_self]
  | func f =>
    simp only [St.ev, Option.some.injEq] at h
    subst h
    simp only [CR, C.ok, C.okL, Act.eval, and_true]
    exact ⟨#[], rfl, by simp only [CRL]⟩
  | global g => simp [St.ev] at h
theorem Env.put (he : Env S w pl used st av a) (hs : a.tmps.size = st.N) {dst : Option Tmp} (hd : st.fits dst) {c : C} {x : Value} (hc : CR S w pl c x) (hk : C.ok used c) : Env S w pl used (st.put dst c) av (a.put dst x) := by
  cases dst with
  | none => exact he
  | some d =>
    refine ⟨?_, he.2⟩
    intro k c' hk'
    simp only [St.put] at hk'
    by_cases hkd : k = d
    · subst hkd
      rw [upd_self, Option.some.injEq] at hk'
      subst hk'
      have hlt : k < st.N := hd k rfl
      refine ⟨x, ?_, hc, hk⟩
      simp only [Act.put]
      rw [Array.getElem?_setIfInBounds_self_of_lt (by rw [hs]; exact hlt)]
    · rw [upd_ne hkd] at hk'
      obtain ⟨y, h1, h2⟩ := he.1 k c' hk'
      refine ⟨y, ?_, h2⟩
      simp only [Act.put]
      rw [Array.getElem?_setIfInBounds_ne (Ne.symm hkd)]
      exact h1
theorem put_size (a : Act) (dst : Option Tmp) (v : Value) : (a.put dst v).tmps.size = a.tmps.size ∧ (a.put dst v).defers = a.defers := by
  cases dst <;> simp [Act.put]
theorem put_rows (st : St) (dst : Option Tmp) (c : C) : (st.put dst c).rows = st.rows ∧ (st.put dst c).used = st.used ∧ (st.put dst c).N = st.N := by
  cases dst <;> simp [St.put]
/-- The way all steps go: the memory in hand, the new memory and the value. -/
theorem R.step (h : R X st a w) {ρ ρ' : Nat → Pl} {Fp' : Nat → FS} {rows' : Nat → Option Row} {used' : Nat → Bool} {dst : Option Tmp} {c : C} {x : Value} (h2 : Env X.S w (plOf st.rows ρ) st.used st X.av a)
    (hd : st.fits dst) (hb : Below X.B w w') (hkeep : Same X.K w w') (k1 : Mem X.S X.K X.B rows' used' ρ' Fp' w') (k2 : ∀ r p, st.used r = true → plOf rows' ρ' r = some p → plOf st.rows ρ r = some p) (k3 : ∀ r, st.used r = true → used' r = true)
    (k4 : CR X.S w' (plOf rows' ρ') c x) (k5 : C.ok used' c) : R X { st.put dst c with rows := rows', used := used' } (a.put dst x) w' := by
  refine ⟨⟨ρ', Fp', k1, ?_⟩, (put_size _ _ _).2.trans h.nodef, (put_size _ _ _).1.trans (h.size.trans (put_rows _ _ _).2.2.symm), h.below.trans hb, h.keep.trans hkeep, h.hsub, h.hk, h.hB⟩
  have he : Env X.S w' (plOf rows' ρ') used' st X.av a := by
    refine ⟨fun k c hk => ?_, CRL_mono FS.sub.refl (hkeep.mono h.hsub) _ k2 h2.2.2 h2.2.1, okL_mono k3 _ h2.2.2⟩
    obtain ⟨y, e1, e2, e3⟩ := h2.1 k c hk
    exact ⟨y, e1, CR_mono FS.sub.refl (hkeep.mono h.hsub) c k2 e3 e2, ok_mono k3 c e3⟩
  have := Env.put (st := st) he h.size hd k4 k5
  cases dst <;> exact this
/-- A step that leaves the world alone. -/
theorem R.pure (h : R X st a w) {ρ : Nat → Pl} {Fp : Nat → FS} {dst : Option Tmp} {c : C} {x : Value} (h1 : Mem X.S X.K X.B st.rows st.used ρ Fp w) (h2 : Env X.S w (plOf st.rows ρ) st.used st X.av a) (hd : st.fits dst)
    (hc : CR X.S w (plOf st.rows ρ) c x) (hk : C.ok st.used c) : R X (st.put dst c) (a.put dst x) w := by
  have := h.step (rows' := st.rows) (used' := st.used) (c := c) (x := x) h2 hd (Below.refl _ _) Same.refl h1 (fun _ _ _ => id) (fun _ => id) hc hk
  have e : { st.put dst c with rows := st.rows, used := st.used } = st.put dst c := by cases dst <;> rfl
  rwa [e] at this
theorem goes_move (h : R X st a w) {x : Operand} {c : C} (ho : o.op = .move x ∨ o.op = .assign x) (hx : st.ev x = some c) (hd : st.fits o.dst) : Goes P X o a w (st.put o.dst c) := by
  obtain ⟨ρ, Fp, h1, h2⟩ := h.mem
  refine goes_value (v := a.eval x) (w' := w) ?_ (h.pure h1 h2 hd (ev_eval h2 hx).1 (ev_eval h2 hx).2)
  unfold execOp
  rcases ho with ho | ho <;> rw [ho] <;> rfl
/-- A value that is computed out of values without memory. -/
theorem goes_scalar (h : R X st a w) {v : Value} (hrun : (execOp a.eval o).run P w = .ok (.value v) w) (hd : st.fits o.dst) : Goes P X o a w (st.put o.dst (.v (.sc v))) := by
  obtain ⟨ρ, Fp, h1, h2⟩ := h.mem
  exact goes_value hrun (h.pure h1 h2 hd (by simp only [CR, VI]) (by simp only [C.ok]))
/-- An operand without memory. -/
theorem ev_sc (h : R X st a w) {x : Operand} {v : Value} (hx : st.ev x = some (.v (.sc v))) : a.eval x = v := by
  obtain ⟨ρ, Fp, h1, h2⟩ := h.mem
  have := (ev_eval h2 hx).1
  simpa only [CR, VI] using this
end
end Go.Eng
namespace Go.Eng
open Go.RowKit (Below)
/-- What a read of a cell gives. -/
def readC : C → Option C
  | .own (.sc v) => some (.v (.sc v))
  | .own (.im t) => some (.v t)
  | .own _ | .ag _ | .tp _ => none
  | c => some c
def readL : List C → Option (List C)
  | [] => some []
  | c :: cs => match readC c, readL cs with
    | some d, some ds => some (d :: ds)
    | _, _ => none
/-- A value on its way into a cell. -/
def toCell : C → C
  | .v (.sc x) => .own (.sc x)
  | c => c
/-- Is it one cell? -/
def oneV : V → Bool
  | .sc x => x.oneCell'
  | .ag _ | .tp _ => false
  | .im t => oneV t
  | _ => true
def oneC : C → Bool
  | .v t => oneV t
  | .own _ | .ag _ | .tp _ | .dead => false
  | _ => true
/-- The cells of a value. -/
def cellsC : C → List C
  | .ag cs => cs
  | c => [c]
def setRange (cs : List C) (off : Nat) : List C → List C
  | [] => cs
  | c :: r => setRange (cs.set off c) (off + 1) r
section
variable {P : Program} {X : Ctx} {o : Oper} {st st' : St} {a : Act} {w w' : World} {S K : FS} {B : Nat} {pl : Nat → Option Pl} {used : Nat → Bool} {rows : Nat → Option Row} {ρ : Nat → Pl} {Fp : Nat → FS}
theorem readC_CR {c c' : C} {x : Value} {G : FS} (h : CellR S w pl c x G) (hr : readC c = some c') : CR S w pl c' x := by
  cases c with
  | own t =>
    cases t <;> simp only [readC, Option.some.injEq, reduceCtorEq] at hr
    · subst hr; simpa only [CellR, VO, CR, VI] using h
    · subst hr; simpa only [CellR, VO, CR] using h
  | ag cs => simp [readC] at hr
  | tp cs => simp [readC] at hr
  | v t => simp only [readC, Option.some.injEq] at hr; subst hr; exact h
  | sr r off E len => simp only [readC, Option.some.injEq] at hr; subst hr; exact h
  | pr r off => simp only [readC, Option.some.injEq] at hr; subst hr; exact h
  | fn f cs => simp only [readC, Option.some.injEq] at hr; subst hr; exact h
  | dead => simp only [readC, Option.some.injEq] at hr; subst hr; exact h
theorem readC_ok {c c' : C} (h : C.ok used c) (hr : readC c = some c') : C.ok used c' := by
  cases c with
  | own t => cases t <;> simp only [readC, Option.some.injEq, reduceCtorEq] at hr <;> (subst hr; simp only [C.ok])
  | ag cs => simp [readC] at hr
  | tp cs => simp [readC] at hr
  | v t => simp only [readC, Option.some.injEq] at hr; subst hr; exact h
  | sr r off E len => simp only [readC, Option.some.injEq] at hr; subst hr; exact h
  | pr r off => simp only [readC, Option.some.injEq] at hr; subst hr; exact h
  | fn f cs => simp only [readC, Option.some.injEq] at hr; subst hr; exact h
  | dead => simp only [readC, Option.some.injEq] at hr; subst hr; exact h
theorem readL_ok : ∀ {cs ds : List C}, C.okL used cs → readL cs = some ds → C.okL used ds
  | [], _, _, h => by simp only [readL, Option.some.injEq] at h; subst h; simp only [C.okL]
  | c :: cs, _, k, h => by
    simp only [readL] at h
    split at h
    · rename_i d es h1 h2
      simp only [Option.some.injEq] at h
      subst h
      simp only [C.okL] at k ⊢
      exact ⟨readC_ok k.1 h1, readL_ok k.2 h2⟩
    · cases h
theorem readL_CR : ∀ {cs ds : List C} {b o : Nat} {G : FS}, RowR S w pl cs b o G → readL cs = some ds → ∃ vs, w.rangeAt b o vs ∧ vs.length = cs.length ∧ CRL S w pl ds vs
  | [], _, b, o, _, _, h => by
    simp only [readL, Option.some.injEq] at h; subst h
    exact ⟨[], fun j v hv => by simp at hv, rfl, by simp only [CRL]⟩
  | c :: cs, _, b, o, G, hr, h => by
    simp only [readL] at h
    split at h
    · rename_i d es h1 h2
      simp only [Option.some.injEq] at h
      subst h
      simp only [RowR] at hr
      obtain ⟨x, G1, G2, k1, k2, k3, _⟩ := hr
      obtain ⟨vs, e1, e2, e3⟩ := readL_CR k3 h2
      refine ⟨x :: vs, ?_, by simp [e2], by simp only [CRL]; exact ⟨x, vs, rfl, readC_CR k2 h1, e3⟩⟩
      intro j v hv
      cases j with
      | zero => simp only [List.getElem?_cons_zero, Option.some.injEq] at hv; subst hv; exact k1
      | succ j =>
        simp only [List.getElem?_cons_succ] at hv
        rw [show o + (j + 1) = o + 1 + j by omega]
        exact e1 j v hv
    · cases h
theorem CRL_length : ∀ {cs : List C} {vs : List Value}, CRL S w pl cs vs → vs.length = cs.length
  | [], _, h => by simp only [CRL] at h; subst h; rfl
  | c :: cs, _, h => by
    simp only [CRL] at h
    obtain ⟨x, xs, rfl, _, h3⟩ := h
    simp [CRL_length h3]
theorem CRL_get : ∀ {cs : List C} {vs : List Value} {i : Nat} {c : C}, CRL S w pl cs vs → cs[i]? = some c → ∃ x, vs[i]? = some x ∧ CR S w pl c x
  | [], _, _, _, _, h => by simp at h
  | c :: cs, _, 0, _, h, hi => by
    simp only [CRL] at h
    obtain ⟨x, xs, rfl, h2, _⟩ := h
    simp only [List.getElem?_cons_zero, Option.some.injEq] at hi ⊢
    subst hi
    exact ⟨x, rfl, h2⟩
  | c :: cs, _, i + 1, _, h, hi => by
    simp only [CRL] at h
    obtain ⟨x, xs, rfl, _, h3⟩ := h
    simp only [List.getElem?_cons_succ] at hi ⊢
    exact CRL_get h3 hi
theorem CRL_drop : ∀ {cs : List C} {vs : List Value} (k : Nat), CRL S w pl cs vs → CRL S w pl (cs.drop k) (vs.drop k)
  | _, _, 0, h => by simpa using h
  | [], _, k + 1, h => by simp only [CRL] at h; subst h; simp [CRL]
  | c :: cs, _, k + 1, h => by
    simp only [CRL] at h
    obtain ⟨x, xs, rfl, _, h3⟩ := h
    simpa using CRL_drop k h3
theorem CRL_take : ∀ {cs : List C} {vs : List Value} (k : Nat), CRL S w pl cs vs → CRL S w pl (cs.take k) (vs.take k)
  | _, _, 0, h => by simp [CRL]
  | [], _, k + 1, h => by simp only [CRL] at h; subst h; simp [CRL]
  | c :: cs, _, k + 1, h => by
    simp only [CRL] at h
    obtain ⟨x, xs, rfl, h2, h3⟩ := h
    simp only [List.take_succ_cons, CRL]
    exact ⟨x, _, rfl, h2, CRL_take k h3⟩
theorem CI_get : ∀ {cs : List V} {b o i : Nat} {t : V}, CI S w cs b o → cs[i]? = some t → S b (o + i) ∧ ∃ x, w.cell? ⟨b, o + i, none⟩ = some x ∧ VI S w t x
  | [], _, _, _, _, _, h => by simp at h
  | t :: ts, b, o, 0, _, h, hi => by
    simp only [CI] at h
    simp only [List.getElem?_cons_zero, Option.some.injEq] at hi
    subst hi
    exact h.1
  | t :: ts, b, o, i + 1, _, h, hi => by
    simp only [CI] at h
    simp only [List.getElem?_cons_succ] at hi
    have := CI_get h.2 hi
    rwa [show o + 1 + i = o + (i + 1) by omega] at this
theorem CI_drop : ∀ {cs : List V} {b o : Nat} (k : Nat), CI S w cs b o → CI S w (cs.drop k) b (o + k)
  | _, _, _, 0, h => by simpa using h
  | [], _, _, k + 1, _ => by simp [CI]
  | t :: ts, b, o, k + 1, h => by
    simp only [CI] at h
    have := CI_drop k h.2
    rw [List.drop_succ_cons, show o + (k + 1) = o + 1 + k by omega]
    exact this
theorem CI_take : ∀ {cs : List V} {b o : Nat} (k : Nat), CI S w cs b o → CI S w (cs.take k) b o
  | _, _, _, 0, _ => by simp [CI]
  | [], _, _, k + 1, _ => by simp [CI]
  | t :: ts, b, o, k + 1, h => by
    simp only [CI, List.take_succ_cons] at h ⊢
    exact ⟨h.1, CI_take k h.2⟩
theorem CI_range (pl : Nat → Option Pl) : ∀ {cs : List V} {b o : Nat}, CI S w cs b o → ∃ vs, w.rangeAt b o vs ∧ vs.length = cs.length ∧ CRL S w pl (cs.map C.v) vs
  | [], b, o, _ => ⟨[], fun j v hv => by simp at hv, rfl, by simp only [List.map_nil, CRL]⟩
  | t :: ts, b, o, h => by
    simp only [CI] at h
    obtain ⟨⟨_, x, h1, h2⟩, h3⟩ := h
    obtain ⟨vs, e1, e2, e3⟩ := CI_range pl h3
    refine ⟨x :: vs, ?_, by simp [e2], by simp only [List.map_cons, CRL, CR]; exact ⟨x, vs, rfl, h2, e3⟩⟩
    intro j v hv
    cases j with
    | zero => simp only [List.getElem?_cons_zero, Option.some.injEq] at hv; subst hv; exact h1
    | succ j =>
      simp only [List.getElem?_cons_succ] at hv
      rw [show o + (j + 1) = o + 1 + j by omega]
      exact e1 j v hv
theorem okL_map_v (cs : List V) : C.okL used (cs.map C.v) := by
  induction cs with
  | nil => simp only [List.map_nil, C.okL]
  | cons t ts ih => simp only [List.map_cons, C.okL, C.ok, true_and]; exact ih
/-! ### loads -/
def tySize (P : Program) (t : TypeId) : Option Nat := (P.info? t).map (·.size)
def tyAgg (P : Program) (t : TypeId) : Option Bool := (P.underlying t).map (·.isRow)
theorem run_loadVar_one {t : TypeId} (h : tyAgg P t = some false) {ad : Addr} {x : Value} (hx : w.cell? ad = some x) : (loadVar t ad).run P w = .ok x w := by
  unfold tyAgg at h
  cases hu : P.underlying t with
  | none => simp [hu] at h
  | some d =>
    simp only [hu, Option.map_some, Option.some.injEq] at h
    have hagg : (isAgg t).run P w = .ok false w := by
      unfold isAgg
      rw [Sem.run_bind, run_underlying hu w]
      cases d <;> simp_all [TypeDesc.isRow]
    simp [loadVar, Sem.run_bind, hagg, hx]
theorem run_loadVar_many {t : TypeId} (h : tyAgg P t = some true) {b o : Nat} {vs : List Value} (hs : tySize P t = some vs.length) (hx : w.rangeAt b o vs) : (loadVar t ⟨b, o, none⟩).run P w = .ok (.agg vs.toArray) w := by
  unfold tyAgg at h
  cases hu : P.underlying t with
  | none => simp [hu] at h
  | some d =>
    simp only [hu, Option.map_some, Option.some.injEq] at h
    exact run_loadVar_mid w b o t vs d hx hu h hs
theorem goes_load (h : R X st a w) {t : TypeId} {x : Operand} {r off : Nat} {row : Row} {c c' : C} (ho : o.op = .load t x) (ht : tyAgg P t = some false) (hx : st.ev x = some (.pr r off)) (hr : st.rows r = some row) (hc : row.cells[off]? = some c) (hc' : readC c = some c') (hd : st.fits o.dst) :
    Goes P X o a w (st.put o.dst c') := by
  obtain ⟨ρ, Fp, h1, h2⟩ := h.mem
  have e := (ev_eval h2 hx).1
  simp only [CR] at e
  obtain ⟨ad, e1, e2⟩ := e
  have e3 := e2 _ (plOf_some hr)
  obtain ⟨G, k1, _⟩ := h1.row r row hr
  obtain ⟨y, G1, k2, k3, k4⟩ := RowR_get _ k1 hc
  refine goes_value (v := y) (w' := w) ?_ (h.pure h1 h2 hd (readC_CR k3 hc') (readC_ok (okL_get (h1.okc r row hr).2 hc) hc'))
  unfold execOp
  simp only [ho, e1, e3, Instr.loadAt, Instr.sureAddr, Sem.run_bind, Sem.run_pure, Result.andThen_ok, run_loadVar_one ht k2]
theorem RowR_mid {b : Nat} {cs : List C} {o : Nat} {G : FS} (h : RowR S w pl cs b o G) (off n : Nat) (hl : off + n ≤ cs.length) : RowR S w pl ((cs.drop off).take n) b (o + off) G := by
  have e1 : cs.take off ++ cs.drop off = cs := List.take_append_drop off cs
  rw [← e1] at h
  obtain ⟨G1, G2, _, k2, _, _, k5⟩ := RowR_split _ _ h
  rw [List.length_take, Nat.min_eq_left (by omega)] at k2
  rw [← List.take_append_drop n (cs.drop off)] at k2
  obtain ⟨H1, H2, m1, _, _, m4, _⟩ := RowR_split _ _ k2
  exact RowR_fs _ (m4.trans k5) m1
theorem okL_mid {cs : List C} (h : C.okL used cs) (off n : Nat) : C.okL used ((cs.drop off).take n) :=
  okL_iff.2 fun c hc => okL_iff.1 h c (List.mem_of_mem_drop (List.mem_of_mem_take hc))
theorem goes_loadAgg (h : R X st a w) {t : TypeId} {x : Operand} {r off n : Nat} {row : Row} {ds : List C} (ho : o.op = .load t x) (ht : tyAgg P t = some true) (hn : tySize P t = some n) (hx : st.ev x = some (.pr r off)) (hr : st.rows r = some row) (hl : off + n ≤ row.cells.length)
    (hc : readL ((row.cells.drop off).take n) = some ds) (hd : st.fits o.dst) : Goes P X o a w (st.put o.dst (.ag ds)) := by
  obtain ⟨ρ, Fp, h1, h2⟩ := h.mem
  have e := (ev_eval h2 hx).1
  simp only [CR] at e
  obtain ⟨ad, e1, e2⟩ := e
  have e3 := e2 _ (plOf_some hr)
  obtain ⟨G, k1, _⟩ := h1.row r row hr
  obtain ⟨vs, m1, m2, m3⟩ := readL_CR (RowR_mid k1 off n hl) hc
  have m4 : vs.length = n := by rw [m2, List.length_take, List.length_drop]; omega
  refine goes_value (v := .agg vs.toArray) (w' := w) ?_ (h.pure h1 h2 hd (by simp only [CR]; exact ⟨_, rfl, by simpa using m3⟩) (by simp only [C.ok]; exact readL_ok (okL_mid (h1.okc r row hr).2 off n) hc))
  unfold execOp
  simp only [ho, e1, e3, Instr.loadAt, Instr.sureAddr, Sem.run_bind, Sem.run_pure, Result.andThen_ok, run_loadVar_many ht (by rw [hn, m4]) m1]
theorem goes_loadV (h : R X st a w) {t : TypeId} {x : Operand} {cs : List V} {d : V} (ho : o.op = .load t x) (ht : tyAgg P t = some false) (hx : st.ev x = some (.v (.bx cs))) (hc : cs[0]? = some d) (hd : st.fits o.dst) :
    Goes P X o a w (st.put o.dst (.v d)) := by
  obtain ⟨ρ, Fp, h1, h2⟩ := h.mem
  have e := (ev_eval h2 hx).1
  simp only [CR, VI] at e
  obtain ⟨b, p, e1, e2⟩ := e
  obtain ⟨_, y, k2, k3⟩ := CI_get e2 hc
  refine goes_value (v := y) (w' := w) ?_ (h.pure h1 h2 hd (by simp only [CR]; exact k3) (by simp only [C.ok]))
  unfold execOp
  simp only [Nat.add_zero] at k2
  simp only [ho, e1, Instr.loadAt, Instr.sureAddr, Sem.run_bind, Sem.run_pure, Result.andThen_ok, run_loadVar_one ht k2]
theorem goes_loadAggV (h : R X st a w) {t : TypeId} {x : Operand} {cs : List V} {n : Nat} (ho : o.op = .load t x) (ht : tyAgg P t = some true) (hn : tySize P t = some n) (hx : st.ev x = some (.v (.bx cs))) (hl : n ≤ cs.length) (hd : st.fits o.dst) :
    Goes P X o a w (st.put o.dst (.ag ((cs.take n).map C.v))) := by
  obtain ⟨ρ, Fp, h1, h2⟩ := h.mem
  have e := (ev_eval h2 hx).1
  simp only [CR, VI] at e
  obtain ⟨b, p, e1, e2⟩ := e
  obtain ⟨vs, m1, m2, m3⟩ := CI_range (plOf st.rows ρ) (CI_take n e2)
  have m4 : vs.length = n := by rw [m2, List.length_take]; omega
  refine goes_value (v := .agg vs.toArray) (w' := w) ?_ (h.pure h1 h2 hd (by simp only [CR]; exact ⟨_, rfl, by simpa using m3⟩) (by simp only [C.ok]; exact okL_map_v _))
  unfold execOp
  simp only [ho, e1, Instr.loadAt, Instr.sureAddr, Sem.run_bind, Sem.run_pure, Result.andThen_ok, run_loadVar_many ht (by rw [hn, m4]) m1]
end
end Go.Eng
namespace Go.Eng
open Go.RowKit (Below)
section
variable {P : Program} {X : Ctx} {o : Oper} {st st' : St} {a : Act} {w w' : World} {S K : FS} {B : Nat} {pl : Nat → Option Pl} {used : Nat → Bool} {rows : Nat → Option Row} {ρ : Nat → Pl} {Fp : Nat → FS}
theorem Same_setCell {F : FS} {b i : Nat} {y : Value} (h : ¬ F b i) : Same F w (w.setCell ⟨b, i, none⟩ y) := fun b' o' hf =>
  ⟨World.cell?_setCell_other _ _ _ _ (fun e => h (by injection e with e1 e2 _; subst e1; subst e2; exact hf)), World.frozen?_setCell _ _ _ _⟩
theorem Free_setCell {b o n b' i : Nat} {y : Value} (h : Free w b o n) : Free (w.setCell ⟨b', i, none⟩ y) b o n := fun j hj => by
  obtain ⟨h1, h2⟩ := h j hj
  refine ⟨?_, by rw [World.frozen?_setCell]; exact h2⟩
  by_cases e : (⟨b', i, none⟩ : Addr) = ⟨b, o + j, none⟩
  · rw [e]
    obtain ⟨u, hu⟩ := Option.isSome_iff_exists.1 h1
    rw [World.cell?_setCell_same _ _ _ hu]; rfl
  · rw [World.cell?_setCell_other _ _ _ _ e]; exact h1
/-- One cell of a row is written. -/
theorem Mem.set1 (h : Mem S K B rows used ρ Fp w) (hsub : S.sub K) {r i : Nat} {row : Row} {c' : C} {y : Value} (hr : rows r = some row) (hi : i < row.cells.length) (hc : CellR S w (plOf rows ρ) c' y FS.none) (hk : C.ok used c') :
    Mem S K B (upd rows r (some ⟨row.cells.set i c'⟩)) used ρ Fp (w.setCell ⟨(ρ r).b, (ρ r).o + i, none⟩ y) ∧ Same K w (w.setCell ⟨(ρ r).b, (ρ r).o + i, none⟩ y) ∧ Below B w (w.setCell ⟨(ρ r).b, (ρ r).o + i, none⟩ y) := by
  obtain ⟨G, h1, h2, h3, h4, h5, h6⟩ := h.row r row hr
  have hin : (ρ r).fs (ρ r).b ((ρ r).o + i) := ⟨rfl, by omega, by omega⟩
  have hF := h3 _ _ hin
  have hKs : Same K w (w.setCell ⟨(ρ r).b, (ρ r).o + i, none⟩ y) := Same_setCell (fun hk => h.kdis r row hr _ _ hF hk)
  have hSs := hKs.mono hsub
  refine ⟨?_, hKs, (Below.refl _ _).setCell (h.low r row hr _ _ hF).1 y⟩
  have hpl : plOf (upd rows r (some ⟨row.cells.set i c'⟩)) ρ = plOf rows ρ := plOf_upd_some hr
  refine ⟨fun j row' hj => ?_, fun i' j row' row'' hij hi' hj => ?_, fun j row' hj => ?_, fun j row' hj => ?_, fun j row' hj => ?_⟩
  · rw [hpl]
    by_cases hjr : j = r
    · subst hjr
      simp only [upd_self, Option.some.injEq] at hj
      subst hj
      have hGs : Same G w (w.setCell ⟨(ρ j).b, (ρ j).o + i, none⟩ y) := Same_setCell (fun hg => h5 _ _ hin hg)
      obtain ⟨u, hu⟩ := Option.isSome_iff_exists.1 (h6 i (by omega)).1
      refine ⟨G, RowR_set (u := used) row.cells (h.okc j row hr).2 h1 (World.cell?_setCell_same _ _ _ hu) (CellR_mono FS.sub.refl hSs (u := used) (fun _ _ _ => id) hk FS.sub.refl (fun _ _ hf => hf.elim) hc) (fun k _ hne => ?_) hGs hSs, by simpa using h2, h3, h4, h5, Free_setCell h6⟩
      exact World.cell?_setCell_other _ _ _ _ (fun e => by injection e with _ e2 _; omega)
    · rw [upd_ne hjr] at hj
      obtain ⟨G', k1, k2, k3, k4, k5, k6⟩ := h.row j row' hj
      have hFs : Same (Fp j) w (w.setCell ⟨(ρ r).b, (ρ r).o + i, none⟩ y) := Same_setCell (fun hf => h.sep r j row row' (Ne.symm hjr) hr hj _ _ hF hf)
      have hcs := hFs.mono k3
      exact ⟨G', RowR_mono FS.sub.refl hSs _ (fun _ _ _ => id) (h.okc j row' hj).2 FS.sub.refl (hFs.mono k4) (fun i hi => (hcs _ _ ⟨rfl, by omega, by omega⟩).1) k1, k2, k3, k4, k5, Free_setCell k6⟩
  · have e1 : ∃ q, rows i' = some q := by
      by_cases e : i' = r
      · exact ⟨row, e ▸ hr⟩
      · rw [upd_ne e] at hi'; exact ⟨_, hi'⟩
    have e2 : ∃ q, rows j = some q := by
      by_cases e : j = r
      · exact ⟨row, e ▸ hr⟩
      · rw [upd_ne e] at hj; exact ⟨_, hj⟩
    exact h.sep i' j _ _ hij e1.choose_spec e2.choose_spec
  · by_cases e : j = r
    · subst e; exact h.kdis j row hr
    · rw [upd_ne e] at hj; exact h.kdis j row' hj
  · by_cases e : j = r
    · subst e; intro b o hf; rw [World.size_setCell]; exact h.low j row hr b o hf
    · rw [upd_ne e] at hj; intro b o hf; rw [World.size_setCell]; exact h.low j row' hj b o hf
  · by_cases e : j = r
    · subst e
      simp only [upd_self, Option.some.injEq] at hj
      subst hj
      exact ⟨(h.okc j row hr).1, okL_set (h.okc j row hr).2 hk⟩
    · rw [upd_ne e] at hj; exact h.okc j row' hj
theorem upd_upd {α : Type} (f : Nat → α) (k : Nat) (u v : α) : upd (upd f k u) k v = upd f k v := by
  funext j; by_cases e : j = k <;> simp [upd, e]
theorem upd_id {α : Type} {f : Nat → α} {k : Nat} {v : α} (h : f k = v) : upd f k v = f := by
  funext j; by_cases e : j = k
  · subst e; simp [h]
  · simp [upd, e]
theorem setRange_length : ∀ (new cs : List C) (off : Nat), (setRange cs off new).length = cs.length
  | [], _, _ => rfl
  | c :: r, cs, off => by simp [setRange, setRange_length r]
/-- Several cells of a row are written, one after the other. -/
theorem Mem.setN (hsub : S.sub K) {r : Nat} : ∀ (new : List C) (vs : List Value) {w : World} {rows : Nat → Option Row} {row : Row} {off : Nat}, Mem S K B rows used ρ Fp w → rows r = some row → off + new.length ≤ row.cells.length →
    (∀ (i : Nat) (c : C), new[i]? = some c → ∃ y : Value, vs[i]? = some y ∧ CellR S w (plOf rows ρ) c y FS.none) → vs.length = new.length → C.okL used new →
    Mem S K B (upd rows r (some ⟨setRange row.cells off new⟩)) used ρ Fp (w.setCells (ρ r).b ((ρ r).o + off) vs) ∧ Same K w (w.setCells (ρ r).b ((ρ r).o + off) vs) ∧ Below B w (w.setCells (ρ r).b ((ρ r).o + off) vs)
  | [], vs, w, rows, row, off, h, hr, _, _, hl, _ => by
    have : vs = [] := List.length_eq_zero_iff.1 (by simpa using hl)
    subst this
    simp only [setRange, World.setCells]
    rw [upd_id hr]
    exact ⟨h, Same.refl, Below.refl _ _⟩
  | c :: new, [], _, _, _, _, _, _, _, _, hl, _ => by simp at hl
  | c :: new, v :: vs, w, rows, row, off, h, hr, hoff, hc, hl, hk => by
    simp only [List.length_cons] at hoff hl
    simp only [C.okL] at hk
    obtain ⟨y, e1, e2⟩ := hc 0 c (by simp)
    simp only [List.getElem?_cons_zero, Option.some.injEq] at e1
    subst e1
    obtain ⟨m1, m2, m3⟩ := h.set1 hsub (c' := c) (y := v) (i := off) hr (by omega) e2 hk.1
    have hS := m2.mono hsub
    obtain ⟨n1, n2, n3⟩ := Mem.setN hsub new vs (off := off + 1) (row := ⟨row.cells.set off c⟩) m1 (upd_self _ _ _) (by rw [List.length_set]; omega) (fun i d hd => by
      obtain ⟨z, f1, f2⟩ := hc (i + 1) d (by simpa using hd)
      refine ⟨z, by simpa using f1, ?_⟩
      rw [plOf_upd_some hr]
      exact CellR_mono FS.sub.refl hS (u := used) (fun _ _ _ => id) (okL_get hk.2 hd) FS.sub.refl (fun _ _ hf => hf.elim) f2) (by omega) hk.2
    rw [upd_upd] at n1
    simp only [setRange, World.setCells]
    rw [show (ρ r).o + off + 1 = (ρ r).o + (off + 1) by omega]
    exact ⟨n1, m2.trans n2, m3.trans n3⟩
theorem toCell_R {c : C} {y : Value} (h : CR S w pl c y) : CellR S w pl (toCell c) y FS.none := by
  cases c with
  | v t => cases t <;> first | (simpa only [toCell, CellR, VO, CR, VI] using h) | exact h
  | own t => simp only [CR] at h
  | _ => exact h
theorem toCell_ok {c : C} (h : C.ok used c) : C.ok used (toCell c) := by
  cases c with
  | v t => cases t <;> simp only [toCell, C.ok]
  | _ => exact h
theorem oneV_cell : ∀ {t : V} {y : Value}, oneV t = true → VI S w t y → y.oneCell' = true
  | .sc x, _, h, k => by simp only [VI] at k; subst k; exact h
  | .im t, _, h, k => by simp only [VI] at k; exact oneV_cell (t := t) h k
  | .sl _ _ _, _, _, k => by simp only [VI] at k; obtain ⟨_, _, rfl, _⟩ := k; rfl
  | .bx _, _, _, k => by simp only [VI] at k; obtain ⟨_, _, rfl, _⟩ := k; rfl
  | .fn _ _, _, _, k => by simp only [VI] at k; obtain ⟨_, rfl, _⟩ := k; rfl
  | .ag _, _, h, _ => by simp [oneV] at h
  | .tp _, _, h, _ => by simp [oneV] at h
theorem oneC_cell {c : C} {y : Value} (h : oneC c = true) (k : CR S w pl c y) : y.oneCell' = true := by
  cases c with
  | v t => simp only [CR] at k; exact oneV_cell h k
  | sr r off E len => simp only [CR] at k; obtain ⟨_, _, rfl, _⟩ := k; rfl
  | pr r off => simp only [CR] at k; obtain ⟨_, rfl, _⟩ := k; rfl
  | fn f cs => simp only [CR] at k; obtain ⟨_, rfl, _⟩ := k; rfl
  | _ => simp [oneC] at h
/-- A value's cells, each related. -/
theorem cellsC_R {c : C} {x : Value} (h : CR S w pl c x) (h1 : (cellsC c).all oneC = true) : CRL S w pl (cellsC c) x.cells.toList := by
  have key : ∀ d : C, cellsC d = [d] → d = c → CRL S w pl (cellsC c) x.cells.toList := by
    rintro d hd rfl
    have h1' : oneC d = true := by simpa [hd] using h1
    have := oneC_cell h1' h
    have e : x.cells = #[x] := by cases x <;> first | rfl | simp [Value.oneCell'] at this
    rw [e, hd]
    simp only [CRL]
    exact ⟨x, [], rfl, h, rfl⟩
  cases c with
  | ag cs => simp only [CR] at h; obtain ⟨vs, rfl, h2⟩ := h; exact h2
  | _ => exact key _ rfl rfl
theorem cellsC_ok {c : C} (h : C.ok used c) : C.okL used (cellsC c) := by
  cases c with
  | ag cs => simpa only [cellsC, C.ok] using h
  | _ => simp only [cellsC, C.okL, and_true]; exact h
theorem okL_map_toCell {cs : List C} (h : C.okL used cs) : C.okL used (cs.map toCell) :=
  okL_iff.2 fun c hc => by obtain ⟨d, hd, rfl⟩ := List.mem_map.1 hc; exact toCell_ok (okL_iff.1 h d hd)
theorem CRL_cells {cs : List C} {vs : List Value} (h : CRL S w pl cs vs) : ∀ (i : Nat) (c : C), (cs.map toCell)[i]? = some c → ∃ y : Value, vs[i]? = some y ∧ CellR S w pl c y FS.none := by
  intro i c hc
  simp only [List.getElem?_map, Option.map_eq_some_iff] at hc
  obtain ⟨d, hd, rfl⟩ := hc
  obtain ⟨y, e1, e2⟩ := CRL_get h hd
  exact ⟨y, e1, toCell_R e2⟩
theorem CRL_one {cs : List C} {vs : List Value} (h : CRL S w pl cs vs) (h1 : cs.all oneC = true) : ∀ v ∈ vs, v.oneCell' = true := by
  intro v hv
  obtain ⟨i, hi⟩ := List.getElem?_of_mem hv
  have hil := (List.getElem?_eq_some_iff.1 hi).1
  rw [CRL_length h] at hil
  obtain ⟨y, e1, e2⟩ := CRL_get h (List.getElem?_eq_getElem hil)
  rw [hi] at e1
  obtain rfl := Option.some.inj e1
  exact oneC_cell (List.all_eq_true.1 h1 _ (List.getElem_mem hil)) e2
theorem goes_store (h : R X st a w) {t : TypeId} {x y : Operand} {r off : Nat} {row : Row} {c : C} (ho : o.op = .store t x y) (hn : tySize P t = some (cellsC c).length) (hx : st.ev x = some (.pr r off)) (hy : st.ev y = some c) (hr : st.rows r = some row) (hl : off + (cellsC c).length ≤ row.cells.length)
    (h1c : (cellsC c).all oneC = true) (hd : o.dst = none) : Goes P X o a w { st with rows := upd st.rows r (some ⟨setRange row.cells off ((cellsC c).map toCell)⟩) } := by
  obtain ⟨ρ, Fp, h1, h2⟩ := h.mem
  have e := (ev_eval h2 hx).1
  simp only [CR] at e
  obtain ⟨ad, e1, e2⟩ := e
  have e3 := e2 _ (plOf_some hr)
  obtain ⟨f1, f2⟩ := ev_eval h2 hy
  have g := cellsC_R f1 h1c
  have gl := CRL_length g
  obtain ⟨G, k1, k2, _, _, _, k6⟩ := h1.row r row hr
  obtain ⟨m1, m2, m3⟩ := Mem.setN (B := X.B) (used := st.used) h.hsub (r := r) ((cellsC c).map toCell) (a.eval y).cells.toList (off := off) h1 hr (by simpa using hl) (CRL_cells g) (by simpa using gl) (okL_map_toCell (cellsC_ok f2))
  refine goes_skip (w' := w.setCells (ρ r).b ((ρ r).o + off) (a.eval y).cells.toList) ?_ ?_
  · unfold execOp
    have hst := run_storeCells_cells (P := P) (ρ r).b ((ρ r).o + off) (a.eval y).cells.toList 0 w (fun j hj => by have := (k6 (off + j) (by omega)).1; rwa [← Nat.add_assoc] at this) (fun j hj => by have := (k6 (off + j) (by omega)).2; rwa [← Nat.add_assoc] at this) (CRL_one g h1c)
    simp only [Nat.add_zero] at hst
    cases hq : P.info? t with
    | none => simp [tySize, hq] at hn
    | some i =>
      have hs : (a.eval y).cells.size = i.size := by simp [tySize, hq] at hn; simp at gl; omega
      simp [ho, e1, e3, Instr.storeAt, Instr.sureAddr, storeVar, sizeOf, typeInfo, hq, hs, hst]
  · rw [hd]
    exact h.step (st := st) (dst := none) (c := .dead) (x := undef) h2 (fun d hd => by cases hd) m3 m2 m1 (fun r p _ hp => by rwa [plOf_upd_some hr] at hp) (fun _ => id) (by simp only [CR]) (by simp only [C.ok])
end
end Go.Eng
namespace Go.Eng
open Go.RowKit (Below)
section
variable {P : Program} {X : Ctx} {o : Oper} {st st' : St} {a : Act} {w w' : World} {S K : FS} {B : Nat} {pl : Nat → Option Pl} {used : Nat → Bool} {rows : Nat → Option Row} {ρ : Nat → Pl} {Fp : Nat → FS}
theorem RowR_mk : ∀ (cs : List C) {b o : Nat} {G : FS}, (∀ (i : Nat) (c : C), cs[i]? = some c → ∃ y : Value, w.cell? ⟨b, o + i, none⟩ = some y ∧ CellR S w pl c y FS.none) → RowR S w pl cs b o G
  | [], _, _, _, _ => by simp only [RowR]
  | c :: cs, b, o, G, h => by
    simp only [RowR]
    obtain ⟨y, e1, e2⟩ := h 0 c (by simp)
    refine ⟨y, FS.none, FS.none, by simpa using e1, e2, RowR_mk cs (fun i d hd => ?_), FS.none_dis, FS.none_sub, FS.none_sub⟩
    obtain ⟨z, f1, f2⟩ := h (i + 1) d (by simpa using hd)
    exact ⟨z, by rw [show o + 1 + i = o + (i + 1) by omega]; exact f1, f2⟩
theorem Same_alloc {F : FS} {ob : Obj} (h : ∀ b o, F b o → b < w.heap.size) : Same F w (w.alloc ob) := fun b o hf =>
  ⟨World.cell?_alloc_old _ _ _ (Nat.ne_of_lt (h b o hf)), World.frozen?_alloc_old _ _ _ (Nat.ne_of_lt (h b o hf))⟩
theorem Same_drew {F : FS} : Same F w w.drew := fun _ _ _ => ⟨rfl, rfl⟩
/-- A new block: a new row. -/
theorem Mem.alloc (h : Mem S K B rows used ρ Fp w) (hsub : S.sub K) (hKlt : ∀ b o, K b o → b < w.heap.size) (hB : B ≤ w.heap.size) {r : Nat} (hr : used r = false) {cells : List C} {vs : List Value} {ty : TypeId} (hc : ∀ (i : Nat) (c : C), cells[i]? = some c → ∃ y : Value, vs[i]? = some y ∧ CellR S w (plOf rows ρ) c y FS.none) (hl : cells.length ≤ vs.length)
    (hk : C.okL used cells) : Mem S K B (upd rows r (some ⟨cells⟩)) (upd used r true) (upd ρ r ⟨w.heap.size, 0, vs.length⟩) (upd Fp r (chunk w.heap.size 0 vs.length)) (w.alloc (.cells vs.toArray ty)) ∧ Same K w (w.alloc (.cells vs.toArray ty)) ∧ Below B w (w.alloc (.cells vs.toArray ty)) := by
  have hKs : Same K w (w.alloc (.cells vs.toArray ty)) := Same_alloc hKlt
  have hSs := hKs.mono hsub
  have hm : Mem S K B rows used ρ Fp (w.alloc (.cells vs.toArray ty)) := h.world hSs (fun r row hr => Same_alloc fun b o hf => (h.low r row hr b o hf).2) (by simp)
  refine ⟨hm.add (G := FS.none) hr ?_ hk hl FS.sub.refl FS.none_sub FS.dis_none ?_ ?_ ?_ ?_, hKs, (Below.refl _ _).alloc hB _⟩
  · refine RowR_mk _ fun i c hi => ?_
    obtain ⟨y, e1, e2⟩ := hc i c hi
    refine ⟨y, ?_, CellR_mono FS.sub.refl hSs (u := used) (fun _ _ _ => id) (okL_get hk hi) FS.sub.refl (fun _ _ hf => hf.elim) e2⟩
    simp [e1]
  · intro j hj
    simp only [Nat.zero_add]
    refine ⟨by rw [World.cell?_alloc_new]; simp only [List.getElem?_toArray]; rw [List.getElem?_eq_getElem hj]; rfl, World.frozen?_alloc_new _ _ _ _⟩
  · intro j row' hj b o h1 h2
    have := (h.low j row' hj b o h2).2
    have := h1.1
    omega
  · intro b o h1 h2
    have := hKlt b o h2
    have := h1.1
    omega
  · intro b o h1
    rw [World.size_alloc]
    have := h1.1
    omega
theorem plOf_fresh {r : Nat} {row : Row} {p : Pl} {rows' : Nat → Option Row} (hu : used r = false) (h : ∀ j q, plOf rows' ρ j = some q → plOf rows ρ j = some q) : ∀ j q, used j = true → plOf (upd rows' r (some row)) (upd ρ r p) j = some q → plOf rows ρ j = some q := by
  intro j q hj hq
  have hne : j ≠ r := by rintro rfl; rw [hu] at hj; cases hj
  refine h j q ?_
  simpa [plOf, upd_ne hne] using hq
theorem R.heap (h : R X st a w) : X.B ≤ w.heap.size ∧ ∀ b o, X.K b o → b < w.heap.size := ⟨Nat.le_trans h.hB h.below.size, fun b o hk => Nat.lt_of_lt_of_le (h.hk b o hk) h.below.size⟩
/-- The step of an operation that makes a block. -/
theorem R.new (h : R X st a w) {ρ : Nat → Pl} {Fp : Nat → FS} (h1 : Mem X.S X.K X.B st.rows st.used ρ Fp w) (h2 : Env X.S w (plOf st.rows ρ) st.used st X.av a) {dst : Option Tmp} (hd : st.fits dst) {id : Nat} (hid : st.used id = false) {cells : List C} {vs : List Value} {ty : TypeId}
    (hc : ∀ (i : Nat) (c : C), cells[i]? = some c → ∃ y : Value, vs[i]? = some y ∧ CellR X.S w (plOf st.rows ρ) c y FS.none) (hl : cells.length ≤ vs.length) (hk : C.okL st.used cells) {c : C} {x : Value} (hck : C.ok (upd st.used id true) c)
    (hx : CR X.S (w.alloc (.cells vs.toArray ty)) (plOf (upd st.rows id (some ⟨cells⟩)) (upd ρ id ⟨w.heap.size, 0, vs.length⟩)) c x) : R X { st.put dst c with rows := upd st.rows id (some ⟨cells⟩), used := upd st.used id true } (a.put dst x) (w.alloc (.cells vs.toArray ty)) := by
  obtain ⟨m1, m2, m3⟩ := h1.alloc (ty := ty) h.hsub h.heap.2 h.heap.1 hid hc hl hk
  exact h.step h2 hd m3 m2 m1 (plOf_fresh hid fun _ _ => _root_.id) used_upd hx hck
theorem zeros_cells (zs : List Value) : ∀ (i : Nat) (c : C), (zs.map fun z => C.own (.sc z))[i]? = some c → ∃ y : Value, zs[i]? = some y ∧ CellR S w pl c y FS.none := by
  intro i c hc
  simp only [List.getElem?_map, Option.map_eq_some_iff] at hc
  obtain ⟨z, hz, rfl⟩ := hc
  exact ⟨z, hz, by simp only [CellR, VO]⟩
theorem okL_zeros (zs : List Value) : C.okL used (zs.map fun z => C.own (.sc z)) := by
  induction zs with
  | nil => simp only [List.map_nil, C.okL]
  | cons z zs ih => simp only [List.map_cons, C.okL, C.ok, true_and]; exact ih
def tyZero (P : Program) (t : TypeId) : Option (List Value) := match P.info? t with
  | some i => i.zero.map (·.cells.toList)
  | none => none
theorem run_zero {t : TypeId} {zs : List Value} (h : tyZero P t = some zs) : ∃ z : Value, z.cells.toList = zs ∧ ∀ w, (zeroValue t).run P w = .ok z w := by
  unfold tyZero at h
  cases hi : P.info? t with
  | none => simp [hi] at h
  | some i =>
    simp only [hi, Option.map_eq_some_iff] at h
    obtain ⟨z, hz, e⟩ := h
    exact ⟨z, e, fun w => by simp [zeroValue, typeInfo, hi, hz]⟩
theorem goes_alloc (h : R X st a w) {t : TypeId} {zs : List Value} {id : Nat} (ho : o.op = .alloc t) (hz : tyZero P t = some zs) (hid : st.used id = false) (hd : st.fits o.dst) :
    Goes P X o a w { st.put o.dst (.pr id 0) with rows := upd st.rows id (some ⟨zs.map fun z => C.own (.sc z)⟩), used := upd st.used id true } := by
  obtain ⟨ρ, Fp, h1, h2⟩ := h.mem
  obtain ⟨z, e1, e2⟩ := run_zero hz
  refine goes_value (v := .pointer (some ⟨w.heap.size, 0, none⟩)) (w' := w.alloc (.cells zs.toArray t)) ?_ (h.new h1 h2 hd hid (zeros_cells zs) (by simp) (okL_zeros zs) (by simp only [C.ok, upd_self]) ?_)
  · unfold execOp
    simp only [ho, Instr.alloc, Sem.run_bind, e2, Result.andThen_ok, newVar, newRow, run_newObj, Sem.run_pure, World.alloc_eq]
    have : z.cells = zs.toArray := by rw [← e1]
    rw [this]
  · simp only [CR]
    refine ⟨_, rfl, fun p hp => ?_⟩
    simp only [plOf, upd_self, Option.some.injEq] at hp
    subst hp
    rfl
theorem goes_box (h : R X st a w) {t : TypeId} {y : Operand} {c : C} {id : Nat} (ho : o.op = .box t y) (hy : st.ev y = some c) (h1c : (cellsC c).all oneC = true) (hid : st.used id = false) (hd : st.fits o.dst) :
    Goes P X o a w { st.put o.dst (.pr id 0) with rows := upd st.rows id (some ⟨(cellsC c).map toCell⟩), used := upd st.used id true } := by
  obtain ⟨ρ, Fp, h1, h2⟩ := h.mem
  obtain ⟨f1, f2⟩ := ev_eval h2 hy
  have g := cellsC_R f1 h1c
  refine goes_value (v := .pointer (some ⟨w.heap.size, 0, none⟩)) (w' := w.alloc (.cells (a.eval y).cells.toList.toArray t)) ?_ (h.new h1 h2 hd hid (CRL_cells g) (by rw [CRL_length g]; simp) (okL_map_toCell (cellsC_ok f2)) (by simp only [C.ok, upd_self]) ?_)
  · unfold execOp
    simp only [ho, Instr.box, Sem.run_bind, newVar, newRow, run_newObj, Result.andThen_ok, Sem.run_pure, World.alloc_eq, Array.toArray_toList]
  · simp only [CR]
    refine ⟨_, rfl, fun p hp => ?_⟩
    simp only [plOf, upd_self, Option.some.injEq] at hp
    subst hp
    rfl
end
end Go.Eng
namespace Go.Eng
open Go.RowKit (Below)
def fillC (place : Nat → Option (Nat × Nat)) (cs : List C) : List (Nat × C) → Option (List C)
  | [] => some cs
  | (i, c) :: rest => match place i with
    | none => none
    | some (off, size) => if (cellsC c).length = size ∧ off + size ≤ cs.length ∧ (cellsC c).all oneC = true then fillC place (setRange cs off (cellsC c)) rest else none
def setV (vs : List Value) (off : Nat) : List Value → List Value
  | [] => vs
  | x :: r => setV (vs.set off x) (off + 1) r
section
variable {P : Program} {X : Ctx} {o : Oper} {st st' : St} {a : Act} {w w' : World} {S K : FS} {B : Nat} {pl : Nat → Option Pl} {used : Nat → Bool} {rows : Nat → Option Row} {ρ : Nat → Pl} {Fp : Nat → FS}
theorem foldl_setV : ∀ (l : List Value) (k off : Nat) (arr : Array Value), ((l.zipIdx k).foldl (fun cs (p : Value × Nat) => cs.setIfInBounds (off + p.2) p.1) arr).toList = setV arr.toList (off + k) l
  | [], _, _, _ => by simp [setV]
  | x :: l, k, off, arr => by
    simp only [List.zipIdx_cons, List.foldl_cons, setV]
    rw [foldl_setV l (k + 1) off]
    simp [Nat.add_assoc]
theorem CRL_set : ∀ {cs : List C} {vs : List Value} {i : Nat} {c : C} {x : Value}, CRL S w pl cs vs → CR S w pl c x → CRL S w pl (cs.set i c) (vs.set i x)
  | [], _, _, _, _, h, _ => by simp only [CRL] at h; subst h; simp [CRL]
  | d :: cs, _, 0, _, _, h, hc => by
    simp only [CRL] at h
    obtain ⟨y, ys, rfl, _, h3⟩ := h
    simp only [List.set_cons_zero, CRL]
    exact ⟨_, ys, rfl, hc, h3⟩
  | d :: cs, _, i + 1, _, _, h, hc => by
    simp only [CRL] at h
    obtain ⟨y, ys, rfl, h2, h3⟩ := h
    simp only [List.set_cons_succ, CRL]
    exact ⟨_, _, rfl, h2, CRL_set h3 hc⟩
theorem CRL_setRange : ∀ {new : List C} {ns : List Value} {cs : List C} {vs : List Value} {off : Nat}, CRL S w pl cs vs → CRL S w pl new ns → CRL S w pl (setRange cs off new) (setV vs off ns)
  | [], _, _, _, _, h, hn => by simp only [CRL] at hn; subst hn; exact h
  | c :: new, _, cs, vs, off, h, hn => by
    simp only [CRL] at hn
    obtain ⟨y, ys, rfl, h2, h3⟩ := hn
    simp only [setRange, setV]
    exact CRL_setRange (CRL_set h h2) h3
theorem okL_setRange : ∀ {new cs : List C} {off : Nat}, C.okL used cs → C.okL used new → C.okL used (setRange cs off new)
  | [], _, _, h, _ => h
  | c :: new, cs, off, h, hn => by
    simp only [C.okL] at hn
    simp only [setRange]
    exact okL_setRange (okL_set h hn.1) hn.2
theorem fill_R (place : Nat → Option (Nat × Nat)) : ∀ (ps : List (Nat × C)) (qs : List (Nat × Value)) (cs : List C) (arr : Array Value) (ds : List C), CRL S w pl cs arr.toList → C.okL used cs → fillC place cs ps = some ds →
    (ps.map (·.1) = qs.map (·.1)) → CRL S w pl (ps.map (·.2)) (qs.map (·.2)) → C.okL used (ps.map (·.2)) → ∃ arr', Instr.fill place arr qs = some arr' ∧ CRL S w pl ds arr'.toList ∧ C.okL used ds
  | [], [], cs, arr, ds, h, hk, hf, _, _, _ => by
    simp only [fillC, Option.some.injEq] at hf
    subst hf
    exact ⟨arr, rfl, h, hk⟩
  | [], _ :: _, _, _, _, _, _, _, he, _, _ => by simp at he
  | _ :: _, [], _, _, _, _, _, _, he, _, _ => by simp at he
  | (i, c) :: ps, (j, x) :: qs, cs, arr, ds, h, hk, hf, he, hr, ho => by
    simp only [List.map_cons, List.cons.injEq] at he
    obtain ⟨rfl, he⟩ := he
    simp only [List.map_cons, CRL] at hr
    obtain ⟨y, ys, h1, h2, h3⟩ := hr
    simp only [List.cons.injEq] at h1
    obtain ⟨rfl, rfl⟩ := h1
    simp only [List.map_cons, C.okL] at ho
    simp only [fillC] at hf
    cases hp : place i with
    | none => rw [hp] at hf; cases hf
    | some q =>
      obtain ⟨off, size⟩ := q
      rw [hp] at hf
      simp only at hf
      split at hf
      · rename_i hcond
        obtain ⟨c1, c2, c3⟩ := hcond
        have g := cellsC_R h2 c3
        have gl := CRL_length g
        have hl := CRL_length h
        simp only [Array.length_toList] at gl hl
        have e := foldl_setV x.cells.toList 0 off arr
        rw [Nat.add_zero] at e
        obtain ⟨arr', f1, f2, f3⟩ := fill_R place ps qs (setRange cs off (cellsC c)) ((x.cells.toList.zipIdx 0).foldl (fun cs (p : Value × Nat) => cs.setIfInBounds (off + p.2) p.1) arr) ds (by rw [e]; exact CRL_setRange h g) (okL_setRange hk (cellsC_ok ho.1)) hf he h3 ho.2
        refine ⟨arr', ?_, f2, f3⟩
        unfold Instr.fill
        simp only [hp]
        rw [if_neg (by simp; omega)]
        rw [← f1]
        congr 1
        rw [← Array.foldl_toList]
        simp
      · cases hf
/-- Where the fields of a struct type lie. -/
def tyPlaces (P : Program) (t : TypeId) : Option (List (Nat × Nat)) := match P.underlying t with
  | some (.struct fs) => fs.toList.mapM fun f => (tySize P f.type).map fun n => (f.offset, n)
  | _ => none
theorem run_places {fs : List Field} {ps : List (Nat × Nat)} (h : (fs.mapM fun f => (tySize P f.type).map fun n => (f.offset, n)) = some ps) : (fs.mapM fun f => do pure (f.offset, ← sizeOf f.type) : Sem (List (Nat × Nat))).run P w = .ok ps w := by
  induction fs generalizing ps with
  | nil => simp at h; subst h; simp
  | cons f fs ih =>
    simp only [List.mapM_cons, Option.bind_eq_bind, Option.bind_eq_some_iff] at h
    obtain ⟨q, h1, qs, h2, h3⟩ := h
    simp only [Option.pure_def, Option.some.injEq] at h3
    subst h3
    cases hi : P.info? f.type with
    | none => simp [tySize, hi] at h1
    | some i =>
      simp [tySize, hi] at h1
      subst h1
      have hh : (sizeOf f.type).run P w = .ok i.size w := by simp [sizeOf, typeInfo, hi]
      rw [List.mapM_cons]
      simp only [Sem.run_bind, hh, Result.andThen_ok, Sem.run_pure, ih h2]
theorem run_placesA {fs : Array Field} {ps : List (Nat × Nat)} (h : (fs.toList.mapM fun f => (tySize P f.type).map fun n => (f.offset, n)) = some ps) : (fs.mapM fun f => do pure (f.offset, ← sizeOf f.type) : Sem (Array (Nat × Nat))).run P w = .ok ps.toArray w := by
  rw [Array.mapM_eq_mapM_toList]
  simp only [Sem.run_map, run_places h, Result.andThen_ok]
/-- Operands' values, each with its place. -/
def evParts (st : St) : List (Nat × Operand) → Option (List (Nat × C))
  | [] => some []
  | (i, x) :: r => match st.ev x, evParts st r with
    | some c, some cs => some ((i, c) :: cs)
    | _, _ => none
theorem evParts_R {av : List Value} (he : Env S w pl used st av a) : ∀ {ps : List (Nat × Operand)} {cs : List (Nat × C)}, evParts st ps = some cs → cs.map (·.1) = (ps.map fun p => (p.1, a.eval p.2)).map (·.1) ∧ CRL S w pl (cs.map (·.2)) ((ps.map fun p => (p.1, a.eval p.2)).map (·.2)) ∧ C.okL used (cs.map (·.2))
  | [], _, h => by simp only [evParts, Option.some.injEq] at h; subst h; simp [CRL, C.okL]
  | (i, x) :: r, _, h => by
    simp only [evParts] at h
    split at h
    · rename_i c cs h1 h2
      simp only [Option.some.injEq] at h
      subst h
      obtain ⟨e1, e2, e3⟩ := evParts_R he h2
      obtain ⟨f1, f2⟩ := ev_eval he h1
      refine ⟨by simp only [List.map_cons, List.cons.injEq, true_and]; exact e1, ?_, ?_⟩
      · simp only [List.map_cons, CRL]
        exact ⟨_, _, rfl, f1, e2⟩
      · simp only [List.map_cons, C.okL]
        exact ⟨f2, e3⟩
    · cases h
theorem CRL_sc (vs : List Value) : CRL S w pl (vs.map fun z => C.v (.sc z)) vs := by
  induction vs with
  | nil => simp only [List.map_nil, CRL]
  | cons z zs ih => simp only [List.map_cons, CRL]; exact ⟨z, zs, rfl, by simp only [CR, VI], ih⟩
theorem okL_sc (vs : List Value) : C.okL used (vs.map fun z => C.v (.sc z)) := by
  induction vs with
  | nil => simp only [List.map_nil, C.okL]
  | cons z zs ih => simp only [List.map_cons, C.okL, C.ok, true_and]; exact ih
theorem goes_build (h : R X st a w) {t : TypeId} {parts : Array (Nat × Operand)} {zs : List Value} {pls : List (Nat × Nat)} {ps : List (Nat × C)} {ds : List C} (ho : o.op = .build t parts) (hz : tyZero P t = some zs) (hp : tyPlaces P t = some pls) (hv : evParts st parts.toList = some ps)
    (hf : fillC (pls[·]?) (zs.map fun z => C.v (.sc z)) ps = some ds) (hd : st.fits o.dst) : Goes P X o a w (st.put o.dst (.ag ds)) := by
  obtain ⟨ρ, Fp, h1, h2⟩ := h.mem
  obtain ⟨z, e1, e2⟩ := run_zero hz
  unfold tyPlaces at hp
  split at hp
  · rename_i fs hu
    obtain ⟨f1, f2, f3⟩ := evParts_R h2 hv
    obtain ⟨arr', g1, g2, g3⟩ := fill_R (S := X.S) (w := w) (pl := plOf st.rows ρ) (used := st.used) (pls[·]?) ps (parts.toList.map fun p => (p.1, a.eval p.2)) _ z.cells ds (by rw [e1]; exact CRL_sc zs) (okL_sc zs) hf f1 f2 f3
    refine goes_value (v := .agg arr') (w' := w) ?_ (h.pure h1 h2 hd (by simp only [CR]; exact ⟨arr', rfl, g2⟩) (by simp only [C.ok]; exact g3))
    unfold execOp
    simp only [ho, Instr.build, Sem.run_bind, e2, Result.andThen_ok, run_underlying hu, run_placesA hp]
    have : (Array.map (fun x : Nat × Operand => (x.1, a.eval x.2)) parts).toList = parts.toList.map fun p => (p.1, a.eval p.2) := by simp
    simp only [this, List.getElem?_toArray, g1, Sem.run_pure, Result.andThen_ok]
  · cases hp
theorem range_flat (zs : List Value) (l : Nat) : (List.range (l * zs.length)).map (fun i => zs[i % zs.length]!) = (List.replicate l zs).flatten := by
  induction l with
  | zero => simp
  | succ l ih =>
    rw [Nat.succ_mul, List.range_add, List.map_append, ih, List.replicate_succ', List.flatten_append]
    simp only [List.flatten_cons, List.flatten_nil, List.append_nil, List.map_map]
    congr 1
    apply List.ext_getElem?
    intro i
    by_cases hi : i < zs.length
    · simp [hi, Nat.mod_eq_of_lt hi]
    · simp [hi]
theorem map_flat (zs : List Value) (l : Nat) (f : Value → C) : ((List.replicate l zs).flatten).map f = (List.replicate l (zs.map f)).flatten := by
  simp [List.map_flatten]
end
end Go.Eng
namespace Go.Eng
open Go.RowKit (Below)
def tyElem (P : Program) (t : TypeId) : Option TypeId := match P.underlying t with
  | some (.slice e) => some e
  | _ => none
def tyBytes (P : Program) (t : TypeId) : Option Nat := (P.info? t).map (·.bytes)
section
variable {P : Program} {X : Ctx} {o : Oper} {st st' : St} {a : Act} {w w' : World} {S K : FS} {B : Nat} {pl : Nat → Option Pl} {used : Nat → Bool} {rows : Nat → Option Row} {ρ : Nat → Pl} {Fp : Nat → FS}
theorem arr_bang (A : Array Value) (j : Nat) : A.toList[j]! = A[j]! := by
  cases A with | mk l => simp [List.getElem!_toArray]
theorem tyElem_under {t e : TypeId} (h : tyElem P t = some e) : P.underlying t = some (.slice e) := by
  unfold tyElem at h
  split at h
  · simp only [Option.some.injEq] at h; subst h; assumption
  · cases h
theorem run_size {t : TypeId} {n : Nat} (h : tySize P t = some n) (w : World) : (sizeOf t).run P w = .ok n w := by
  unfold tySize at h
  cases hi : P.info? t with
  | none => simp [hi] at h
  | some i => simp [hi] at h; subst h; simp [sizeOf, typeInfo, hi]
theorem flat_length (zs : List Value) (l : Nat) : (List.replicate l zs).flatten.length = l * zs.length := by simp
theorem cells_of_ag {ds : List C} {vs : List Value} (h : CRL S w pl ds vs) : ∀ (i : Nat) (c : C), (ds.map toCell)[i]? = some c → ∃ y : Value, vs[i]? = some y ∧ CellR S w pl c y FS.none := CRL_cells h
theorem goes_buildSlice (h : R X st a w) {t e : TypeId} {len n : Nat} {parts : Array (Nat × Operand)} {zs : List Value} {ps : List (Nat × C)} {ds : List C} {id : Nat} (ho : o.op = .buildSlice t len parts) (he : tyElem P t = some e) (hn : tySize P e = some n) (hz : tyZero P e = some zs) (hzn : zs.length = n) (hlen : len * n ≤ 2 ^ 24)
    (hv : evParts st parts.toList = some ps) (hf : fillC (fun i => some (i * n, n)) ((List.replicate len zs).flatten.map fun z => C.v (.sc z)) ps = some ds) (hid : st.used id = false) (hd : st.fits o.dst) :
    Goes P X o a w { st.put o.dst (.sr id 0 n len) with rows := upd st.rows id (some ⟨ds.map toCell⟩), used := upd st.used id true } := by
  obtain ⟨ρ, Fp, h1, h2⟩ := h.mem
  obtain ⟨z, e1, e2⟩ := run_zero hz
  obtain ⟨f1, f2, f3⟩ := evParts_R h2 hv
  have hzs : z.cells.size = n := by rw [← hzn, ← e1]; simp
  have harr : ((Array.range (len * n)).map ((if len * n = 0 then #[] else z.cells)[· % (if len * n = 0 then #[] else z.cells : Array Value).size]!)).toList = (List.replicate len zs).flatten := by
    rw [← range_flat, hzn]
    by_cases h0 : len * n = 0
    · simp [h0]
    · simp only [h0, if_false, Array.toList_map, Array.toList_range, hzs]
      refine List.map_congr_left fun i _ => ?_
      rw [← e1, arr_bang]
  obtain ⟨arr', g1, g2, g3⟩ := fill_R (S := X.S) (w := w) (pl := plOf st.rows ρ) (used := st.used) (fun i => some (i * n, n)) ps (parts.toList.map fun p => (p.1, a.eval p.2)) _ ((Array.range (len * n)).map ((if len * n = 0 then #[] else z.cells)[· % (if len * n = 0 then #[] else z.cells : Array Value).size]!)) ds (by rw [harr]; exact CRL_sc _) (okL_sc _) hf f1 f2 f3
  have hsize : arr'.size = len * n := by
    have k1 := CRL_length g2
    have k2 : ∀ (ps : List (Nat × C)) (cs ds : List C), fillC (fun i => some (i * n, n)) cs ps = some ds → ds.length = cs.length := by
      intro ps
      induction ps with
      | nil => intro cs ds h; simp only [fillC, Option.some.injEq] at h; rw [h]
      | cons p ps ih =>
        intro cs ds h
        simp only [fillC] at h
        split at h
        · have := ih _ _ h; rw [this, setRange_length]
        · cases h
    have k3 := k2 _ _ _ hf
    rw [List.length_map, flat_length, hzn] at k3
    simp only [Array.length_toList] at k1
    omega
  refine goes_value (v := .slice (some ⟨w.heap.size, 0, none⟩) len len) (w' := w.alloc (.cells arr'.toList.toArray e)) ?_ (h.new h1 h2 hd hid (CRL_cells g2) (by rw [List.length_map, ← CRL_length g2]; exact Nat.le_refl _) (okL_map_toCell g3) (by simp only [C.ok, upd_self]) ?_)
  · unfold execOp
    have hps : (Array.map (fun x : Nat × Operand => (x.1, a.eval x.2)) parts).toList = parts.toList.map fun p => (p.1, a.eval p.2) := by simp
    simp only [ho, Instr.buildSlice, Sem.run_bind, run_underlying (tyElem_under he), run_size hn, Result.andThen_ok]
    rw [if_neg (by omega)]
    by_cases h0 : len * n = 0
    · rw [if_pos h0]
      simp only [h0, if_true] at g1
      simp only [Sem.run_bind, Sem.run_pure, Result.andThen_ok, hps, h0, g1, newRow, run_newObj, World.alloc_eq, Array.toArray_toList]
    · rw [if_neg h0]
      simp only [h0, if_false] at g1
      simp only [Sem.run_bind, e2, Sem.run_pure, Result.andThen_ok, hps, g1, newRow, run_newObj, World.alloc_eq, Array.toArray_toList]
  · simp only [CR]
    refine ⟨_, len, rfl, Nat.le_refl _, fun p hp => .inr ?_⟩
    simp only [plOf, upd_self, Option.some.injEq] at hp
    subst hp
    exact ⟨rfl, by simp only [Array.length_toList, hsize]; omega⟩
theorem run_info {t : TypeId} {b : Nat} (h : tyBytes P t = some b) : ∃ i : TypeInfo, i.bytes = b ∧ ∀ w, (typeInfo t).run P w = .ok i w := by
  unfold tyBytes at h
  cases hi : P.info? t with
  | none => simp [hi] at h
  | some i => simp [hi] at h; exact ⟨i, h, fun w => by simp [typeInfo, hi]⟩
theorem wrap_small {l : Int} (h0 : 0 ≤ l) (h : l ≤ 2 ^ 48) : IntKind.i64.wrap l = l := IntWalk.i64_in _ (by constructor <;> omega)
theorem goes_makeSlice (h : R X st a w) {t e : TypeId} {x y : Operand} {k k' : IntKind} {l : Int} {n b : Nat} {zs : List Value} {id : Nat} (ho : o.op = .makeSlice t x y) (he : tyElem P t = some e) (hn : tySize P e = some n) (hb : tyBytes P e = some b) (hz : tyZero P e = some zs) (hzn : zs.length = n)
    (hx : st.ev x = some (.v (.sc (.int k l)))) (hy : st.ev y = some (.v (.sc (.int k' l)))) (h0 : 0 ≤ l) (hl : l ≤ 2 ^ 48) (hlb : b * l ≤ 2 ^ 48) (hid : st.used id = false) (hd : st.fits o.dst) :
    Goes P X o a w { st.put o.dst (.sr id 0 n l.toNat) with rows := upd st.rows id (some ⟨(List.replicate l.toNat (zs.map fun z => C.own (.sc z))).flatten⟩), used := upd st.used id true } := by
  obtain ⟨ρ, Fp, h1, h2⟩ := h.mem
  obtain ⟨z, e1, e2⟩ := run_zero hz
  obtain ⟨i, i1, i2⟩ := run_info hb
  have ex := ev_sc h hx
  have ey := ev_sc h hy
  have hw := wrap_small h0 hl
  have hzs : z.cells.size = n := by rw [← hzn, ← e1]; simp
  have harr : ((Array.range (l.toNat * n)).map ((if l.toNat * n = 0 then #[] else z.cells)[· % (if l.toNat * n = 0 then #[] else z.cells : Array Value).size]!)) = (List.replicate l.toNat zs).flatten.toArray := by
    apply Array.ext'
    rw [← range_flat, hzn]
    by_cases h0 : l.toNat * n = 0
    · simp [h0]
    · simp only [h0, if_false, Array.toList_map, Array.toList_range, hzs]
      refine List.map_congr_left fun i _ => ?_
      rw [← e1, arr_bang]
  refine goes_value (v := .slice (some ⟨w.heap.size, 0, none⟩) l.toNat l.toNat) (w' := w.alloc (.cells (List.replicate l.toNat zs).flatten.toArray e)) ?_ (h.new h1 h2 hd hid (by rw [← map_flat]; exact zeros_cells _) (by rw [← map_flat]; simp) (by rw [← map_flat]; exact okL_zeros _) (by simp only [C.ok, upd_self]) ?_)
  · unfold execOp
    have t1 : ¬ (l < 0) := by omega
    have t2 : ¬ ((2 : Int) ^ 48 < (i.bytes : Int) * l) := by rw [i1]; omega
    simp only [ho, ex, ey, Instr.makeSlice, Sem.run_bind, run_underlying (tyElem_under he), Result.andThen_ok, asInt, asIntOf, Sem.run_pure, i2, hw]
    simp only [t1, t2, gt_iff_lt, decide_false, Bool.or_self, Int.lt_irrefl, Bool.false_eq_true, if_false]
    by_cases hc : l.toNat * n = 0
    · simp only [hc, if_true] at harr
      simp only [run_askRoom, Result.andThen_ok, Sem.run_bind, run_size hn, hc, if_true, harr, newRow, run_newObj, Sem.run_pure, World.alloc_eq]
    · simp only [hc, if_false] at harr
      simp only [run_askRoom, Result.andThen_ok, Sem.run_bind, run_size hn, hc, if_false, e2, harr, newRow, run_newObj, Sem.run_pure, World.alloc_eq]
  · simp only [CR]
    refine ⟨_, l.toNat, rfl, Nat.le_refl _, fun p hp => .inr ?_⟩
    simp only [plOf, upd_self, Option.some.injEq] at hp
    subst hp
    exact ⟨rfl, by simp only [flat_length, hzn]; omega⟩
end
end Go.Eng
namespace Go.Eng
open Go.RowKit (Below)
def tyField (P : Program) (s : TypeId) (f : Nat) : Option (Nat × Nat × TypeId) := match P.underlying s with
  | some (.struct fs) => match fs[f]? with
    | some fd => (tySize P fd.type).map fun n => (fd.offset, n, fd.type)
    | none => none
  | _ => none
/-- A computation that asks the program alone. -/
def pev {α : Type} (P : Program) : Sem α → Option α
  | .pure a => some a
  | .program k => pev P (k P)
  | _ => none
section
variable {P : Program} {X : Ctx} {o : Oper} {st st' : St} {a : Act} {w w' : World} {S K : FS} {B : Nat} {pl : Nat → Option Pl} {used : Nat → Bool} {rows : Nat → Option Row} {ρ : Nat → Pl} {Fp : Nat → FS}
theorem pev_run {α : Type} : ∀ (s : Sem α) {x : α}, pev P s = some x → ∀ w, s.run P w = .ok x w
  | .pure a, x, h, w => by simp only [pev, Option.some.injEq] at h; subst h; rfl
  | .program k, x, h, w => by simp only [pev] at h; exact pev_run (k P) h w
  | .load .., x, h, w => by simp [pev] at h
  | .store .., x, h, w => by simp [pev] at h
  | .new .., x, h, w => by simp [pev] at h
  | .shape .., x, h, w => by simp [pev] at h
  | .freeze .., x, h, w => by simp [pev] at h
  | .frozen .., x, h, w => by simp [pev] at h
  | .getObj .., x, h, w => by simp [pev] at h
  | .setObj .., x, h, w => by simp [pev] at h
  | .choose .., x, h, w => by simp [pev] at h
  | .sys .., x, h, w => by simp [pev] at h
  | .mark .., x, h, w => by simp [pev] at h
  | .halt .., x, h, w => by simp [pev] at h
theorem pev_bind {α β : Type} (f : α → Sem β) : ∀ (s : Sem α), pev P (s.bind f) = (pev P s).bind fun x => pev P (f x)
  | .pure a => rfl
  | .program k => by simp only [Sem.bind, pev]; exact pev_bind f (k P)
  | .load .. => rfl
  | .store .. => rfl
  | .new .. => rfl
  | .shape .. => rfl
  | .freeze .. => rfl
  | .frozen .. => rfl
  | .getObj .. => rfl
  | .setObj .. => rfl
  | .choose .. => rfl
  | .sys .. => rfl
  | .mark .. => rfl
  | .halt .. => rfl
@[simp] theorem pev_bind' {α β : Type} (f : α → Sem β) (s : Sem α) : pev P (s >>= f) = (pev P s).bind fun x => pev P (f x) := pev_bind f s
@[simp] theorem pev_pure {α : Type} (a : α) : pev P (Pure.pure a : Sem α) = some a := rfl
@[simp] theorem pev_program : pev P program = some P := rfl
theorem goes_fieldAddr (h : R X st a w) {t : TypeId} {x : Operand} {f r off k n : Nat} {ft : TypeId} (ho : o.op = .fieldAddr t x f) (hf : tyField P t f = some (k, n, ft)) (hn : n ≠ 0) (hx : st.ev x = some (.pr r off)) (hd : st.fits o.dst) : Goes P X o a w (st.put o.dst (.pr r (off + k))) := by
  obtain ⟨ρ, Fp, h1, h2⟩ := h.mem
  obtain ⟨e, ek⟩ := ev_eval h2 hx
  simp only [CR] at e
  obtain ⟨ad, e1, e2⟩ := e
  unfold tyField at hf
  split at hf
  · rename_i fs hu
    split at hf
    · rename_i fd hfd
      simp only [Option.map_eq_some_iff, Prod.mk.injEq] at hf
      obtain ⟨m, hm, rfl, rfl, rfl⟩ := hf
      refine goes_value (v := .pointer (some (ad.add fd.offset))) (w' := w) ?_ (h.pure h1 h2 hd ?_ (by simpa only [C.ok] using ek))
      · unfold execOp
        simp only [ho, e1, Instr.fieldAt, Sem.run_bind, run_underlying hu, Result.andThen_ok, hfd, Instr.sureAddr, Sem.run_pure, fieldPlace, run_size hm, if_neg hn]
      · simp only [CR]
        refine ⟨_, rfl, fun p hp => ?_⟩
        rw [e2 p hp, Addr.add_mid, Nat.add_assoc]
    · cases hf
  · cases hf
theorem goes_fieldAddrV (h : R X st a w) {t : TypeId} {x : Operand} {f k n : Nat} {cs : List V} {ft : TypeId} (ho : o.op = .fieldAddr t x f) (hf : tyField P t f = some (k, n, ft)) (hn : n ≠ 0) (hx : st.ev x = some (.v (.bx cs))) (hd : st.fits o.dst) : Goes P X o a w (st.put o.dst (.v (.bx (cs.drop k)))) := by
  obtain ⟨ρ, Fp, h1, h2⟩ := h.mem
  obtain ⟨e, ek⟩ := ev_eval h2 hx
  simp only [CR, VI] at e
  obtain ⟨b, p, e1, e2⟩ := e
  unfold tyField at hf
  split at hf
  · rename_i fs hu
    split at hf
    · rename_i fd hfd
      simp only [Option.map_eq_some_iff, Prod.mk.injEq] at hf
      obtain ⟨m, hm, rfl, rfl, rfl⟩ := hf
      refine goes_value (v := .pointer (some ⟨b, p + fd.offset, none⟩)) (w' := w) ?_ (h.pure h1 h2 hd ?_ (by simp only [C.ok]))
      · unfold execOp
        simp only [ho, e1, Instr.fieldAt, Sem.run_bind, run_underlying hu, Result.andThen_ok, hfd, Instr.sureAddr, Sem.run_pure, fieldPlace, run_size hm, if_neg hn, Addr.add_mid]
      · simp only [CR, VI]
        exact ⟨b, _, rfl, CI_drop _ e2⟩
    · cases hf
  · cases hf
theorem goes_indexAddr (h : R X st a w) {t e : TypeId} {x y : Operand} {r off E len : Nat} {row : Row} {k : IntKind} {i : Int} (ho : o.op = .indexAddr t x y) (ht : tyElem P t = some e) (hE : tySize P e = some E) (hx : st.ev x = some (.sr r off E len)) (hr : st.rows r = some row) (hy : st.ev y = some (.v (.sc (.int k i)))) (h0 : 0 ≤ i) (hi : i < len)
    (hd : st.fits o.dst) : Goes P X o a w (st.put o.dst (.pr r (off + i.toNat * E))) := by
  obtain ⟨ρ, Fp, h1, h2⟩ := h.mem
  obtain ⟨e0, ek⟩ := ev_eval h2 hx
  simp only [CR] at e0
  obtain ⟨ad, cap, e1, e2, e3⟩ := e0
  have ey := ev_sc h hy
  rcases e3 _ (plOf_some hr) with e4 | ⟨e4, e5⟩
  · omega
  · subst e4
    refine goes_value (v := .pointer (some ⟨(ρ r).b, (ρ r).o + off + i.toNat * E, none⟩)) (w' := w) ?_ (h.pure h1 h2 hd ?_ (by simpa only [C.ok] using ek))
    · unfold execOp
      simp only [ho, e1, ey, Instr.indexAt, Sem.run_bind, asIntOf, Sem.run_pure, Result.andThen_ok, run_underlying (tyElem_under ht)]
      rw [if_pos ⟨h0, hi⟩]
      simp only [Sem.run_bind, run_size hE, Result.andThen_ok, Sem.run_pure, Addr.add_mid]
    · simp only [CR]
      refine ⟨_, rfl, fun p hp => ?_⟩
      simp only [plOf, hr, Option.some.injEq] at hp
      subst hp
      rw [Nat.add_assoc]
theorem goes_indexAddrV (h : R X st a w) {t e : TypeId} {x y : Operand} {E E' len : Nat} {cs : List V} {k : IntKind} {i : Int} (ho : o.op = .indexAddr t x y) (ht : tyElem P t = some e) (hE : tySize P e = some E) (hx : st.ev x = some (.v (.sl E' len cs))) (hy : st.ev y = some (.v (.sc (.int k i)))) (h0 : 0 ≤ i) (hi : i < len) (hc : cs ≠ [])
    (hd : st.fits o.dst) : Goes P X o a w (st.put o.dst (.v (.bx (cs.drop (i.toNat * E))))) := by
  obtain ⟨ρ, Fp, h1, h2⟩ := h.mem
  obtain ⟨e0, ek⟩ := ev_eval h2 hx
  simp only [CR, VI] at e0
  obtain ⟨ad, cap, e1, e2, e3⟩ := e0
  have ey := ev_sc h hy
  obtain ⟨b, p, e4, e5⟩ := e3.resolve_left hc
  subst e4
  refine goes_value (v := .pointer (some ⟨b, p + i.toNat * E, none⟩)) (w' := w) ?_ (h.pure h1 h2 hd ?_ (by simp only [C.ok]))
  · unfold execOp
    simp only [ho, e1, ey, Instr.indexAt, Sem.run_bind, asIntOf, Sem.run_pure, Result.andThen_ok, run_underlying (tyElem_under ht)]
    rw [if_pos ⟨h0, hi⟩]
    simp only [Sem.run_bind, run_size hE, Result.andThen_ok, Sem.run_pure, Addr.add_mid]
  · simp only [CR, VI]
    exact ⟨b, _, rfl, CI_drop _ e5⟩
/-- The bounds of a slice expression without a third index. -/
def lowOf (st : St) : Option Operand → Option Int
  | none => some 0
  | some x => match st.ev x with
    | some (.v (.sc (.int _ i))) => some i
    | _ => none
def highOf (st : St) (len : Nat) : Option Operand → Option Int
  | none => some len
  | some x => match st.ev x with
    | some (.v (.sc (.int _ i))) => some i
    | _ => none
theorem run_bounds (h : R X st a w) {lo hi : Option Operand} {len cap : Nat} {l u : Int} (hl : lowOf st lo = some l) (hu : highOf st len hi = some u) (h0 : 0 ≤ l) (h1 : l ≤ u) (h2 : u ≤ len) (hc : len ≤ cap) : (Instr.sliceBounds true len cap (lo.map a.eval) (hi.map a.eval) none).run P w = .ok (l.toNat, u.toNat, cap) w := by
  have key : ∀ {x : Operand} {i : Int} {y : Nat} {code : BoundsCode} , (match st.ev x with | some (.v (.sc (.int _ i))) => some i | _ => none) = some i → 0 ≤ i → i ≤ y → (Instr.sliceBound (a.eval x) y code).run P w = .ok i.toNat w := by
    intro x i y code hx hi0 hi1
    split at hx
    · rename_i k j hj
      simp only [Option.some.injEq] at hx
      subst hx
      have := ev_sc h hj
      simp only [Instr.sliceBound, this, asIntOf, Sem.run_bind, Sem.run_pure, Result.andThen_ok, if_pos (And.intro hi0 hi1)]
    · cases hx
  cases hi with
  | none =>
    simp only [highOf, Option.some.injEq] at hu
    subst hu
    cases lo with
    | none =>
      simp only [lowOf, Option.some.injEq] at hl
      subst hl
      simp [Instr.sliceBounds]
    | some x =>
      simp only [lowOf] at hl
      have := key (y := len) (code := .sliceB) hl h0 (by omega)
      simp [Instr.sliceBounds, this]
  | some y =>
    simp only [highOf] at hu
    have k1 := key (y := cap) (code := .sliceAcap) hu (by omega) (by omega)
    cases lo with
    | none =>
      simp only [lowOf, Option.some.injEq] at hl
      subst hl
      simp [Instr.sliceBounds, k1]
    | some x =>
      simp only [lowOf] at hl
      have := key (y := u.toNat) (code := .sliceB) hl h0 (by omega)
      simp [Instr.sliceBounds, this, k1]
theorem goes_slice (h : R X st a w) {t e : TypeId} {x : Operand} {lo hi : Option Operand} {r off E len : Nat} {l u : Int} (ho : o.op = .slice t x lo hi none) (ht : tyElem P t = some e) (hE : tySize P e = some E) (hx : st.ev x = some (.sr r off E len)) (hl : lowOf st lo = some l) (hu : highOf st len hi = some u) (h0 : 0 ≤ l) (hlu : l ≤ u) (hul : u ≤ len)
    (hd : st.fits o.dst) : Goes P X o a w (st.put o.dst (.sr r (off + l.toNat * E) E (u.toNat - l.toNat))) := by
  obtain ⟨ρ, Fp, h1, h2⟩ := h.mem
  obtain ⟨e0, ek⟩ := ev_eval h2 hx
  simp only [CR] at e0
  obtain ⟨ad, cap, e1, e2, e3⟩ := e0
  refine goes_value (v := .slice (if cap = l.toNat then ad else ad.map (·.add (l.toNat * E))) (u.toNat - l.toNat) (cap - l.toNat)) (w' := w) ?_ (h.pure h1 h2 hd ?_ (by simpa only [C.ok] using ek))
  · unfold execOp
    have hb := run_bounds (P := P) (a := a) h hl hu h0 hlu hul e2
    simp only [ho, e1, Instr.sliceAt, Sem.run_bind, run_underlying (tyElem_under ht), Result.andThen_ok, Instr.slice, Option.map_none, hb, run_size hE, Sem.run_pure]
  · simp only [CR]
    refine ⟨_, _, rfl, by omega, fun p hp => ?_⟩
    rcases e3 p hp with e4 | ⟨e4, e5⟩
    · left; omega
    · by_cases hc : cap = l.toNat
      · left; omega
      · right
        rw [if_neg hc, e4]
        refine ⟨by simp only [Option.map_some, Addr.add_mid, Nat.add_assoc], ?_⟩
        have : l.toNat * E + (cap - l.toNat) * E = cap * E := by rw [← Nat.add_mul]; congr 1; omega
        omega
theorem goes_sliceV (h : R X st a w) {t e : TypeId} {x : Operand} {lo hi : Option Operand} {E E' len : Nat} {cs : List V} {l u : Int} (ho : o.op = .slice t x lo hi none) (ht : tyElem P t = some e) (hE : tySize P e = some E) (hx : st.ev x = some (.v (.sl E' len cs))) (hl : lowOf st lo = some l) (hu : highOf st len hi = some u) (h0 : 0 ≤ l) (hlu : l ≤ u) (hul : u ≤ len)
    (hd : st.fits o.dst) : Goes P X o a w (st.put o.dst (.v (.sl E' (u.toNat - l.toNat) ((cs.drop (l.toNat * E)).take ((u.toNat - l.toNat) * E))))) := by
  obtain ⟨ρ, Fp, h1, h2⟩ := h.mem
  obtain ⟨e0, ek⟩ := ev_eval h2 hx
  simp only [CR, VI] at e0
  obtain ⟨ad, cap, e1, e2, e3⟩ := e0
  refine goes_value (v := .slice (if cap = l.toNat then ad else ad.map (·.add (l.toNat * E))) (u.toNat - l.toNat) (cap - l.toNat)) (w' := w) ?_ (h.pure h1 h2 hd ?_ (by simp only [C.ok]))
  · unfold execOp
    have hb := run_bounds (P := P) (a := a) h hl hu h0 hlu hul e2
    simp only [ho, e1, Instr.sliceAt, Sem.run_bind, run_underlying (tyElem_under ht), Result.andThen_ok, Instr.slice, Option.map_none, hb, run_size hE, Sem.run_pure]
  · simp only [CR, VI]
    refine ⟨_, _, rfl, by omega, ?_⟩
    rcases e3 with e4 | ⟨b, p, e4, e5⟩
    · left; simp [e4]
    · by_cases hc : cap = l.toNat
      · left
        have : u.toNat - l.toNat = 0 := by omega
        simp [this]
      · right
        rw [if_neg hc, e4]
        exact ⟨b, p + l.toNat * E, by simp only [Option.map_some, Addr.add_mid], CI_take _ (CI_drop _ e5)⟩
end
end Go.Eng
namespace Go.Eng
open Go.RowKit (Below)
def evL (st : St) : List Operand → Option (List C)
  | [] => some []
  | x :: r => match st.ev x, evL st r with
    | some c, some cs => some (c :: cs)
    | _, _ => none
section
variable {P : Program} {X : Ctx} {o : Oper} {st st' : St} {a : Act} {w w' : World} {S K : FS} {B : Nat} {pl : Nat → Option Pl} {used : Nat → Bool} {rows : Nat → Option Row} {ρ : Nat → Pl} {Fp : Nat → FS}
theorem evL_R {av : List Value} (he : Env S w pl used st av a) : ∀ {xs : List Operand} {cs : List C}, evL st xs = some cs → CRL S w pl cs (xs.map a.eval) ∧ C.okL used cs
  | [], _, h => by simp only [evL, Option.some.injEq] at h; subst h; simp [CRL, C.okL]
  | x :: r, _, h => by
    simp only [evL] at h
    split at h
    · rename_i c cs h1 h2
      simp only [Option.some.injEq] at h
      subst h
      obtain ⟨e1, e2⟩ := evL_R he h2
      obtain ⟨f1, f2⟩ := ev_eval he h1
      refine ⟨?_, ?_⟩
      · simp only [List.map_cons, CRL]; exact ⟨_, _, rfl, f1, e1⟩
      · simp only [C.okL]; exact ⟨f2, e2⟩
    · cases h
/-- p[:], p a pointer to an array of n elements. -/
theorem goes_sliceArr (h : R X st a w) {t e : TypeId} {x : Operand} {r off E n : Nat} {row : Row} (ho : o.op = .slice t x none none none) (ht : P.underlying t = some (.array n e)) (hE : tySize P e = some E) (hx : st.ev x = some (.pr r off)) (hr : st.rows r = some row) (hl : off + n * E ≤ row.cells.length)
    (hd : st.fits o.dst) : Goes P X o a w (st.put o.dst (.sr r off E n)) := by
  obtain ⟨ρ, Fp, h1, h2⟩ := h.mem
  obtain ⟨e0, ek⟩ := ev_eval h2 hx
  simp only [CR] at e0
  obtain ⟨ad, e1, e2⟩ := e0
  obtain ⟨G, _, k2, _⟩ := h1.row r row hr
  refine goes_value (v := .slice (some (if n = 0 then ad else ad.add 0)) n n) (w' := w) ?_ (h.pure h1 h2 hd ?_ (by simpa only [C.ok] using ek))
  · unfold execOp
    simp [ho, e1, Instr.sliceAt, run_underlying ht, Instr.sliceBounds, Instr.sureAddr, run_size hE]
  · simp only [CR]
    refine ⟨_, _, rfl, Nat.le_refl _, fun p hp => ?_⟩
    by_cases hn : n = 0
    · exact .inl hn
    · right
      rw [if_neg hn, e2 p hp]
      refine ⟨by simp [Addr.add], ?_⟩
      simp only [plOf, hr, Option.some.injEq] at hp
      subst hp
      omega
/-- s[:0:0]: nothing, with no room. -/
theorem goes_slice00 (h : R X st a w) {t e : TypeId} {x : Operand} {c : C} {E id : Nat} {k1 k2 : IntKind} {hi mx : Operand} (ho : o.op = .slice t x none (some hi) (some mx)) (ht : tyElem P t = some e) (hE : tySize P e = some E) (hx : st.ev x = some c) (hc : (∃ r off len, c = .sr r off E len) ∨ (∃ E' len cs, c = .v (.sl E' len cs)) ∨ c = .v (.sc (.slice none 0 0)))
    (hhi : st.ev hi = some (.v (.sc (.int k1 0)))) (hmx : st.ev mx = some (.v (.sc (.int k2 0)))) (hid : st.used id = false) (hd : st.fits o.dst) :
    Goes P X o a w { st.put o.dst (.sr id 0 E 0) with rows := upd st.rows id (some ⟨[]⟩), used := upd st.used id true } := by
  obtain ⟨ρ, Fp, h1, h2⟩ := h.mem
  obtain ⟨e0, ek⟩ := ev_eval h2 hx
  have g1 := ev_sc h hhi
  have g2 := ev_sc h hmx
  have hs : ∃ ad len cap, a.eval x = .slice ad len cap := by
    rcases hc with ⟨r, off, len, rfl⟩ | ⟨E', len, cs, rfl⟩ | rfl
    · simp only [CR] at e0; obtain ⟨ad, cap, e1, _⟩ := e0; exact ⟨_, _, _, e1⟩
    · simp only [CR, VI] at e0; obtain ⟨ad, cap, e1, _⟩ := e0; exact ⟨_, _, _, e1⟩
    · simp only [CR, VI] at e0; exact ⟨_, _, _, e0⟩
  obtain ⟨ad, len, cap, e1⟩ := hs
  have m1 : Mem X.S X.K X.B (upd st.rows id (some ⟨[]⟩)) (upd st.used id true) (upd ρ id ⟨0, 0, 0⟩) (upd Fp id FS.none) w := h1.add (G := FS.none) hid (by simp only [RowR]) (by simp only [C.okL]) (by simp) (fun b o ⟨_, h2, h3⟩ => by simp at h3) FS.none_sub FS.dis_none (fun j hj => by simp at hj) (fun _ _ _ => FS.none_dis) FS.none_dis (fun _ _ hf => hf.elim)
  refine goes_value (v := .slice ad 0 0) (w' := w) ?_ (h.step h2 hd (Below.refl _ _) Same.refl m1 (plOf_fresh hid fun _ _ => _root_.id) used_upd ?_ (by simp only [C.ok, upd_self]))
  · unfold execOp
    simp [ho, e1, g1, g2, Instr.sliceAt, run_underlying (tyElem_under ht), Instr.slice, Instr.sliceBounds, Instr.sliceBound, asIntOf, run_size hE]
  · simp only [CR]
    exact ⟨ad, 0, rfl, Nat.le_refl _, fun _ _ => .inl rfl⟩
theorem goes_field (h : R X st a w) {t : TypeId} {x : Operand} {f k n : Nat} {ft : TypeId} {cs : List C} {c : C} (ho : o.op = .field t x f) (hf : tyField P t f = some (k, n, ft)) (hag : tyAgg P ft = some false) (hx : st.ev x = some (.ag cs)) (hc : cs[k]? = some c) (hd : st.fits o.dst) : Goes P X o a w (st.put o.dst c) := by
  obtain ⟨ρ, Fp, h1, h2⟩ := h.mem
  obtain ⟨e, ek⟩ := ev_eval h2 hx
  simp only [CR, C.ok] at e ek
  obtain ⟨vs, e1, e2⟩ := e
  obtain ⟨y, y1, y2⟩ := CRL_get e2 hc
  unfold tyField at hf
  split at hf
  · rename_i fs hu
    split at hf
    · rename_i fd hfd
      simp only [Option.map_eq_some_iff, Prod.mk.injEq] at hf
      obtain ⟨m, hm, rfl, rfl, rfl⟩ := hf
      refine goes_value (v := y) (w' := w) ?_ (h.pure h1 h2 hd y2 (okL_get ek hc))
      unfold tyAgg at hag
      cases hut : P.underlying fd.type with
      | none => simp [hut] at hag
      | some d =>
        simp only [hut, Option.map_some, Option.some.injEq] at hag
        have hagg : (isAgg fd.type).run P w = .ok false w := by
          unfold isAgg
          rw [Sem.run_bind, run_underlying hut w]
          cases d <;> simp_all [TypeDesc.isRow]
        unfold execOp
        have y1' : vs[fd.offset]? = some y := by simpa using y1
        simp only [ho, e1, Instr.field, Sem.run_bind, run_underlying hu, Result.andThen_ok, hfd, asAgg, Sem.run_pure, part, hagg, y1']
        rfl
    · cases hf
  · cases hf
theorem goes_fieldAgg (h : R X st a w) {t : TypeId} {x : Operand} {f k n : Nat} {ft : TypeId} {cs : List C} (ho : o.op = .field t x f) (hf : tyField P t f = some (k, n, ft)) (hag : tyAgg P ft = some true) (hx : st.ev x = some (.ag cs)) (hd : st.fits o.dst) : Goes P X o a w (st.put o.dst (.ag ((cs.drop k).take n))) := by
  obtain ⟨ρ, Fp, h1, h2⟩ := h.mem
  obtain ⟨e, ek⟩ := ev_eval h2 hx
  simp only [CR, C.ok] at e ek
  obtain ⟨vs, e1, e2⟩ := e
  unfold tyField at hf
  split at hf
  · rename_i fs hu
    split at hf
    · rename_i fd hfd
      simp only [Option.map_eq_some_iff, Prod.mk.injEq] at hf
      obtain ⟨m, hm, rfl, rfl, rfl⟩ := hf
      refine goes_value (v := .agg (vs.extract fd.offset (fd.offset + m))) (w' := w) ?_ (h.pure h1 h2 hd ?_ (by simp only [C.ok]; exact okL_mid ek _ _))
      · unfold tyAgg at hag
        cases hut : P.underlying fd.type with
        | none => simp [hut] at hag
        | some d =>
          simp only [hut, Option.map_some, Option.some.injEq] at hag
          have hagg : (isAgg fd.type).run P w = .ok true w := by
            unfold isAgg
            rw [Sem.run_bind, run_underlying hut w]
            cases d <;> simp_all [TypeDesc.isRow]
          unfold execOp
          simp only [ho, e1, Instr.field, Sem.run_bind, run_underlying hu, Result.andThen_ok, hfd, asAgg, Sem.run_pure, part, hagg, if_true, run_size hm]
      · simp only [CR]
        refine ⟨_, rfl, ?_⟩
        rw [Array.toList_extract, List.extract_eq_take_drop]
        rw [Nat.add_sub_cancel_left]
        exact CRL_take _ (CRL_drop _ e2)
    · cases hf
  · cases hf
theorem goes_extract (h : R X st a w) {x : Operand} {i : Nat} {cs : List C} {c : C} (ho : o.op = .extract x i) (hx : st.ev x = some (.tp cs)) (hc : cs[i]? = some c) (hd : st.fits o.dst) : Goes P X o a w (st.put o.dst c) := by
  obtain ⟨ρ, Fp, h1, h2⟩ := h.mem
  obtain ⟨e, ek⟩ := ev_eval h2 hx
  simp only [CR, C.ok] at e ek
  obtain ⟨vs, e1, e2⟩ := e
  obtain ⟨y, y1, y2⟩ := CRL_get e2 hc
  refine goes_value (v := y) (w' := w) ?_ (h.pure h1 h2 hd y2 (okL_get ek hc))
  unfold execOp
  have y1' : vs[i]? = some y := by simpa using y1
  simp only [ho, e1, Instr.extract, y1', Sem.run_bind, Sem.run_pure, Result.andThen_ok]
/-- Is it surely no nil pointer, nor a nil function? -/
def nonNil : C → Bool
  | .pr _ _ | .fn _ _ | .v (.bx _) | .v (.fn _ _) => true
  | _ => false
theorem goes_nilCheck (h : R X st a w) {x : Operand} {c : C} (ho : o.op = .nilCheck x) (hx : st.ev x = some c) (hn : nonNil c = true) (hd : st.fits o.dst) : Goes P X o a w (st.put o.dst c) := by
  obtain ⟨ρ, Fp, h1, h2⟩ := h.mem
  obtain ⟨e, ek⟩ := ev_eval h2 hx
  refine goes_value (v := a.eval x) (w' := w) ?_ (h.pure h1 h2 hd e ek)
  have : (∃ p, a.eval x = .pointer (some p)) ∨ ∃ f vs, a.eval x = .func (.func f) #[] vs := by
    cases c with
    | pr r off => simp only [CR] at e; obtain ⟨p, e1, _⟩ := e; exact .inl ⟨p, e1⟩
    | fn f cs => simp only [CR] at e; obtain ⟨vs, e1, _⟩ := e; exact .inr ⟨f, vs, e1⟩
    | v t =>
      cases t with
      | bx cs => simp only [CR, VI] at e; obtain ⟨b, p, e1, _⟩ := e; exact .inl ⟨_, e1⟩
      | fn f cs => simp only [CR, VI] at e; obtain ⟨vs, e1, _⟩ := e; exact .inr ⟨f, vs, e1⟩
      | _ => simp [nonNil] at hn
    | _ => simp [nonNil] at hn
  unfold execOp
  rcases this with ⟨p, e1⟩ | ⟨f, vs, e1⟩ <;> simp only [ho, e1] <;> rfl
theorem goes_pick (h : R X st a w) {x y z : Operand} {b : Bool} {c : C} (ho : o.op = .pick x y z) (hx : st.ev x = some (.v (.sc (.bool b)))) (hc : st.ev (if b then y else z) = some c) (hd : st.fits o.dst) : Goes P X o a w (st.put o.dst c) := by
  obtain ⟨ρ, Fp, h1, h2⟩ := h.mem
  obtain ⟨e, ek⟩ := ev_eval h2 hc
  have ex := ev_sc h hx
  refine goes_value (v := a.eval (if b then y else z)) (w' := w) ?_ (h.pure h1 h2 hd e ek)
  unfold execOp
  cases b <;> simp [ho, ex, asBool]
/-- How long a slice is. -/
def lenC : C → Option Nat
  | .sr _ _ _ len | .v (.sl _ len _) => some len
  | .v (.sc (.slice none 0 0)) => some 0
  | _ => none
theorem lenC_R {c : C} {x : Value} {n : Nat} (h : CR S w pl c x) (hn : lenC c = some n) : ∃ ad cap, x = .slice ad n cap := by
  cases c with
  | sr r off E len => simp only [lenC, Option.some.injEq] at hn; subst hn; simp only [CR] at h; obtain ⟨ad, cap, e, _⟩ := h; exact ⟨_, _, e⟩
  | v t =>
    cases t with
    | sl E len cs => simp only [lenC, Option.some.injEq] at hn; subst hn; simp only [CR, VI] at h; obtain ⟨ad, cap, e, _⟩ := h; exact ⟨_, _, e⟩
    | sc y =>
      simp only [CR, VI] at h
      subst h
      unfold lenC at hn
      split at hn <;> simp_all
    | _ => simp [lenC] at hn
  | _ => simp [lenC] at hn
theorem goes_len (h : R X st a w) {t e : TypeId} {x : Operand} {c : C} {n : Nat} {call : Call} (ho : o.op = .call call) (hca : call.callee = .builtin .len) (hargs : call.args = #[x]) (hty : call.argTypes = #[t]) (ht : tyElem P t = some e) (hx : st.ev x = some c) (hn : lenC c = some n) (hd : st.fits o.dst) : Goes P X o a w (st.put o.dst (.v (.sc (.int .i64 n)))) := by
  obtain ⟨ρ, Fp, h1, h2⟩ := h.mem
  obtain ⟨ad, cap, e1⟩ := lenC_R (ev_eval h2 hx).1 hn
  refine goes_scalar h ?_ hd
  unfold execOp
  simp [ho, resolve, hca, hargs, hty, invoke, builtin, Builtin.len_, run_underlying (tyElem_under ht), e1, goInt]
theorem goes_makeFunc (h : R X st a w) {f : FuncId} {caps : Array Operand} {cs : List C} (ho : o.op = .makeFunc (.func f) #[] caps) (hc : evL st caps.toList = some cs) (hd : st.fits o.dst) : Goes P X o a w (st.put o.dst (.fn f cs)) := by
  obtain ⟨ρ, Fp, h1, h2⟩ := h.mem
  obtain ⟨e1, e2⟩ := evL_R h2 hc
  refine goes_value (v := .func (.func f) #[] (caps.map a.eval)) (w' := w) ?_ (h.pure h1 h2 hd ?_ (by simpa only [C.ok] using e2))
  · unfold execOp
    simp only [ho, Instr.makeFunc, Sem.run_bind, Sem.run_pure, Result.andThen_ok, Array.map_empty]
  · simp only [CR]
    exact ⟨_, rfl, by simpa using e1⟩
end
end Go.Eng
namespace Go.Eng
open Go.RowKit (Below)
def bytesC (s : ByteArray) : List C := s.data.toList.map fun b => C.v (.sc (.int .u8 b.toNat))
/-- The cells that are appended or copied: how many elements, and what they hold. -/
def srcC (rows : Nat → Option Row) (E : Nat) : C → Option (Nat × List C)
  | .sr r off E' m => match rows r with
    | some row => if E' = E ∧ off + m * E ≤ row.cells.length then (readL ((row.cells.drop off).take (m * E))).map fun ds => (m, ds) else none
    | none => none
  | .v (.sl _ m cs) => if cs.length = m * E then some (m, cs.map C.v) else none
  | .v (.sc (.slice none 0 0)) => some (0, [])
  | .v (.sc (.string s)) => if E = 1 then some (s.size, bytesC s) else none
  | _ => none
section
variable {P : Program} {X : Ctx} {o : Oper} {st st' : St} {a : Act} {w w' : World} {S K : FS} {B : Nat} {pl : Nat → Option Pl} {used : Nat → Bool} {rows : Nat → Option Row} {ρ : Nat → Pl} {Fp : Nat → FS}
theorem run_first {E k : Nat} {b p len cap : Nat} {vs : List Value} (h : w.rangeAt b p vs) (hk : k * E ≤ vs.length) : (Builtin.firstCells E k (.slice (some ⟨b, p, none⟩) len cap)).run P w = .ok (vs.take (k * E)).toArray w := by
  have := run_firstCells_some (P := P) w E k ⟨b, p, none⟩ len cap (vs.take (k * E)) (by rw [List.length_take]; omega) (fun j v hv => by
    rw [Addr.add_mid]
    rw [List.getElem?_take] at hv
    split at hv
    · exact h j v hv
    · cases hv)
  exact this
theorem rangeAt_same {b p : Nat} {vs : List Value} (h : w.rangeAt b p vs) (hc : ∀ ad, w'.cell? ad = w.cell? ad) : w'.rangeAt b p vs := fun j v hv => (hc _).trans (h j v hv)
/-- What srcC tells is what is read. -/
theorem srcC_R (hm : Mem S K B rows used ρ Fp w) {E m : Nat} {c : C} {x : Value} {ds : List C} (h : CR S w (plOf rows ρ) c x) (hk : C.ok used c) (hs : srcC rows E c = some (m, ds)) :
    ∃ vs : List Value, vs.length = m * E ∧ CRL S w (plOf rows ρ) ds vs ∧ C.okL used ds ∧ (∀ w', (Builtin.lenOf x).run P w' = .ok m w') ∧ ∀ w' k, (∀ ad, w'.cell? ad = w.cell? ad) → k ≤ m → (Builtin.firstCells E k x).run P w' = .ok (vs.take (k * E)).toArray w' := by
  unfold srcC at hs
  split at hs
  · rename_i r off E' m'
    split at hs
    · rename_i row hr
      split at hs
      · rename_i hcond
        obtain ⟨rfl, hlen⟩ := hcond
        simp only [Option.map_eq_some_iff, Prod.mk.injEq] at hs
        obtain ⟨ds', hd, rfl, rfl⟩ := hs
        simp only [CR] at h
        obtain ⟨ad, cap, e1, e2, e3⟩ := h
        obtain ⟨G, k1, _⟩ := hm.row r row hr
        obtain ⟨vs, m1, m2, m3⟩ := readL_CR (RowR_mid k1 off (m' * E') hlen) hd
        have m4 : vs.length = m' * E' := by rw [m2, List.length_take, List.length_drop]; omega
        refine ⟨vs, m4, m3, readL_ok (okL_mid (hm.okc r row hr).2 off _) hd, fun w' => by rw [e1]; rfl, fun w' k hc hkm => ?_⟩
        rw [e1]
        rcases e3 _ (plOf_some hr) with e4 | ⟨e4, _⟩
        · have hk0 : k = 0 := by omega
          subst hk0
          cases ad with
          | none => simp [Builtin.firstCells]
          | some ad => simp [Builtin.firstCells, loadCells, loadCellsFrom]
        · rw [e4]
          exact run_first (rangeAt_same m1 hc) (by rw [m4]; exact Nat.mul_le_mul_right _ hkm)
      · cases hs
    · cases hs
  · rename_i E' m' cs
    split at hs
    · rename_i hcs
      simp only [Option.some.injEq, Prod.mk.injEq] at hs
      obtain ⟨rfl, rfl⟩ := hs
      simp only [CR, VI] at h
      obtain ⟨ad, cap, e1, e2, e3⟩ := h
      rcases e3 with e3 | ⟨b, p, e3, e4⟩
      · subst e3
        refine ⟨[], hcs, by simp only [List.map_nil, CRL], by simp only [List.map_nil, C.okL], fun w' => by rw [e1]; rfl, fun w' k hc hkm => ?_⟩
        have hk0 : k * E = 0 := by
          have := Nat.mul_le_mul_right E hkm
          have h2 : m' * E = 0 := hcs.symm
          omega
        rw [e1]
        cases ad with
        | none => simp [Builtin.firstCells]
        | some ad => simp [Builtin.firstCells, hk0, loadCells, loadCellsFrom]
      · obtain ⟨vs, m1, m2, m3⟩ := CI_range (plOf rows ρ) e4
        refine ⟨vs, by rw [m2, hcs], m3, okL_map_v _, fun w' => by rw [e1]; rfl, fun w' k hc hkm => ?_⟩
        rw [e1, e3]
        exact run_first (rangeAt_same m1 hc) (by rw [m2, hcs]; exact Nat.mul_le_mul_right _ hkm)
    · cases hs
  · simp only [Option.some.injEq, Prod.mk.injEq] at hs
    obtain ⟨rfl, rfl⟩ := hs
    simp only [CR, VI] at h
    subst h
    refine ⟨[], by simp, by simp only [CRL], by simp only [C.okL], fun w' => rfl, fun w' k hc hkm => ?_⟩
    simp [Builtin.firstCells]
  · rename_i s
    split at hs
    · rename_i hE
      subst hE
      simp only [Option.some.injEq, Prod.mk.injEq] at hs
      obtain ⟨rfl, rfl⟩ := hs
      simp only [CR, VI] at h
      subst h
      refine ⟨s.data.toList.map fun b => Value.int .u8 b.toNat, by rw [List.length_map, Nat.mul_one]; rfl, ?_, ?_, fun w' => rfl, fun w' k hc hkm => ?_⟩
      · unfold bytesC
        have := CRL_sc (S := S) (w := w) (pl := plOf rows ρ) (s.data.toList.map fun b => Value.int .u8 b.toNat)
        rwa [List.map_map] at this
      · unfold bytesC
        have := okL_sc (used := used) (s.data.toList.map fun b => Value.int .u8 b.toNat)
        rwa [List.map_map] at this
      · simp only [Builtin.firstCells, Sem.run_pure]
        congr 1
        apply Array.ext'
        simp [ByteArray.extract, ByteArray.copySlice]
    · cases hs
  · cases hs
theorem RowR_move {pl' : Nat → Option Pl} {u : Nat → Bool} : ∀ (cs : List C) {b o b' o' : Nat} {G : FS}, (∀ r p, u r = true → pl' r = some p → pl r = some p) → C.okL u cs → Same S w w' → Same G w w' → (∀ j x, j < cs.length → w.cell? ⟨b, o + j, none⟩ = some x → w'.cell? ⟨b', o' + j, none⟩ = some x) → RowR S w pl cs b o G → RowR S w' pl' cs b' o' G
  | [], _, _, _, _, _, _, _, _, _, _, _ => by simp only [RowR]
  | c :: cs, b, o, b', o', G, hp, hk, hS, hG, hc, h => by
    simp only [RowR, C.okL] at h hk ⊢
    obtain ⟨x, G1, G2, h1, h2, h3, h4, h5, h6⟩ := h
    refine ⟨x, G1, G2, ?_, CellR_mono FS.sub.refl hS hp hk.1 FS.sub.refl (hG.mono h5) h2, RowR_move cs hp hk.2 hS (hG.mono h6) (fun j y hj hy => ?_) h3, h4, h5, h6⟩
    · have := hc 0 x (by simp) (by simpa using h1)
      simpa using this
    · have := hc (j + 1) y (by simpa using hj) (by rwa [show o + (j + 1) = o + 1 + j by omega])
      rwa [show o' + (j + 1) = o' + 1 + j by omega] at this
theorem RowR_range : ∀ (cs : List C) {b o : Nat} {G : FS}, RowR S w pl cs b o G → ∃ vs : List Value, w.rangeAt b o vs ∧ vs.length = cs.length
  | [], _, _, _, _ => ⟨[], fun j v hv => by simp at hv, rfl⟩
  | c :: cs, b, o, G, h => by
    simp only [RowR] at h
    obtain ⟨x, G1, G2, h1, h2, h3, _⟩ := h
    obtain ⟨vs, e1, e2⟩ := RowR_range cs h3
    refine ⟨x :: vs, ?_, by simp [e2]⟩
    intro j v hv
    cases j with
    | zero => simp only [List.getElem?_cons_zero, Option.some.injEq] at hv; subst hv; exact h1
    | succ j =>
      simp only [List.getElem?_cons_succ] at hv
      rw [show o + (j + 1) = o + 1 + j by omega]
      exact e1 j v hv
def notInt (P : Program) (u : TypeId) : Bool := match P.underlying u with
  | some (.int _) => false
  | some _ => true
  | none => false
theorem run_notInt {u : TypeId} (h : notInt P u = true) : ∃ d, (∀ w, (underlying u).run P w = .ok d w) ∧ ∀ k, d ≠ .int k := by
  unfold notInt at h
  split at h
  · cases h
  · rename_i d hd hu
    exact ⟨d, fun w => run_underlying hu w, fun k e => hd k e⟩
  · cases h
/-- append, there being room. -/
theorem run_append_room {t u e ty : TypeId} {E m b p sLen sCap : Nat} {x : Value} {vs : List Value} (ht : tyElem P t = some e) (hu : notInt P u = true) (hE : tySize P e = some E) (hlen : ∀ w', (Builtin.lenOf x).run P w' = .ok m w')
    (hfirst : (Builtin.firstCells E m x).run P w = .ok vs.toArray w) (h1 : ∀ v ∈ vs, v.oneCell' = true) (hth : w.there b (p + sLen * E) vs.length) (hroom : sLen + m ≤ sCap) :
    (Builtin.append_ #[t, u] ty #[.slice (some ⟨b, p, none⟩) sLen sCap, x]).run P w = .ok (.slice (some ⟨b, p, none⟩) (sLen + m) sCap) (w.setCells b (p + sLen * E) vs) := by
  have hst := run_storeCells_cells (P := P) b (p + sLen * E) vs 0 w (fun j hj => by simpa using (hth j hj).1) (fun j hj => by simpa using (hth j hj).2) h1
  simp only [Nat.add_zero] at hst
  obtain ⟨d, hd, hdn⟩ := run_notInt hu
  simp only [Builtin.append_, List.getElem?_toArray, List.getElem?_cons_zero, List.getElem?_cons_succ, Sem.run_bind, run_underlying (tyElem_under ht), Result.andThen_ok, run_size hE, hd, Sem.run_pure]
  cases d <;> first
    | exact absurd rfl (hdn _)
    | simp only [Bool.false_eq_true, if_false, Bool.not_false, if_true, Sem.run_bind, hlen, Result.andThen_ok, if_pos hroom, hfirst, Addr.add_mid, hst, Sem.run_pure]
theorem run_append_none {t u e ty : TypeId} {E m sLen sCap : Nat} {x : Value} (ht : tyElem P t = some e) (hu : notInt P u = true) (hE : tySize P e = some E) (hlen : ∀ w', (Builtin.lenOf x).run P w' = .ok m w')
    (hfirst : (Builtin.firstCells E m x).run P w = .ok #[] w) (hroom : sLen + m ≤ sCap) :
    (Builtin.append_ #[t, u] ty #[.slice none sLen sCap, x]).run P w = .ok (.slice none (sLen + m) sCap) w := by
  obtain ⟨d, hd, hdn⟩ := run_notInt hu
  simp only [Builtin.append_, List.getElem?_toArray, List.getElem?_cons_zero, List.getElem?_cons_succ, Sem.run_bind, run_underlying (tyElem_under ht), Result.andThen_ok, run_size hE, hd, Sem.run_pure]
  cases d <;> first
    | exact absurd rfl (hdn _)
    | simp only [Bool.false_eq_true, if_false, Bool.not_false, if_true, Sem.run_bind, hlen, Result.andThen_ok, if_pos hroom, hfirst, Sem.run_pure]
/-- append, there being no room: a new row. -/
theorem run_append_grow {t u e ty : TypeId} {E B m sLen sCap : Nat} {base : Option Addr} {x : Value} {vs olds zs : List Value} (ht : tyElem P t = some e) (hu : notInt P u = true) (hE : tySize P e = some E) (hB : tyBytes P e = some B) (hB0 : 0 < B) (hz : tyZero P e = some zs) (hlen : ∀ w', (Builtin.lenOf x).run P w' = .ok m w')
    (hfirst : (Builtin.firstCells E m x).run P w.drew = .ok vs.toArray w.drew) (hold : (Builtin.firstCells E sLen (.slice base sLen sCap)).run P w.drew = .ok olds.toArray w.drew) (hroom : sCap < sLen + m) (hbig : (sLen + m) * B ≤ 140737488355328) :
    ∃ cap zz, sLen + m ≤ cap ∧ zz = (List.replicate (cap - (sLen + m)) zs).flatten ∧ (Builtin.append_ #[t, u] ty #[.slice base sLen sCap, x]).run P w = .ok (.slice (some ⟨w.heap.size, 0, none⟩) (sLen + m) cap) (w.drew.alloc (.cells (olds ++ vs ++ zz).toArray e)) := by
  obtain ⟨i, i1, i2⟩ := run_info hB
  obtain ⟨z, e1, e2⟩ := run_zero hz
  refine ⟨grownCap w (sLen + m) sCap e, _, grownCap_ge _ _ _ _, rfl, ?_⟩
  have h48 : ¬ ((2 : Nat) ^ 48 < Builtin.nextslicecap (sLen + m) sCap * i.bytes) := by
    rw [i1]
    have := growslice_fits (old := sCap) (need := sLen + m) (bytes := B) hroom hbig
    omega
  have hzc : Builtin.zeroCells z.cells (grownCap w (sLen + m) sCap e - (sLen + m)) = (List.replicate (grownCap w (sLen + m) sCap e - (sLen + m)) zs).flatten.toArray := by
    apply Array.ext'
    have hzs : z.cells.size = zs.length := by rw [← e1]; simp
    rw [← range_flat]
    simp only [Builtin.zeroCells, hzs, Array.toList_map, Array.toList_range]
    refine List.map_congr_left fun i _ => ?_
    rw [← e1, arr_bang]
  have hb : ¬ i.bytes = 0 := by omega
  have hnr : ¬ (sLen + m ≤ sCap) := by omega
  have hcut : (Question.appendCap (sLen + m) sCap e).cut (w.tape w.drawn (Question.appendCap (sLen + m) sCap e)) = grownCap w (sLen + m) sCap e := rfl
  obtain ⟨d, hd, hdn⟩ := run_notInt hu
  simp only [Builtin.append_, List.getElem?_toArray, List.getElem?_cons_zero, List.getElem?_cons_succ, Sem.run_bind, run_underlying (tyElem_under ht), Result.andThen_ok, run_size hE, hd, Sem.run_pure]
  cases d <;> first
    | exact absurd rfl (hdn _)
    | simp only [Bool.false_eq_true, if_false, Bool.not_false, if_true, Sem.run_bind, hlen, Result.andThen_ok, hnr, i2, hb, or_self, and_false, h48, gt_iff_lt, run_choose, Question.forced, World.drew_eq, run_askRoom, hold, hfirst, e2, newRow, run_newObj, Sem.run_pure, World.alloc_eq, hcut, hzc, List.append_toArray, World.size_drew]
end
end Go.Eng
namespace Go.Eng
open Go.RowKit (Below)
section
variable {P : Program} {X : Ctx} {o : Oper} {st st' : St} {a : Act} {w w' : World} {S K : FS} {B : Nat} {pl : Nat → Option Pl} {used : Nat → Bool} {rows : Nat → Option Row} {ρ : Nat → Pl} {Fp : Nat → FS}
theorem Same_setCells {F : FS} {b : Nat} {vs : List Value} {p : Nat} (h : ∀ o, p ≤ o → o < p + vs.length → ¬ F b o) : Same F w (w.setCells b p vs) := fun b' o' hf =>
  ⟨World.cell?_setCells_out b vs p w _ (fun h1 _ => by
    simp only at h1
    subst h1
    simp only
    by_cases h2 : o' < p
    · exact .inl h2
    · by_cases h3 : p + vs.length ≤ o'
      · exact .inr h3
      · exact absurd hf (h o' (by omega) (by omega))), World.frozen?_setCells _ _ _ _ _⟩
theorem setCells_size (b : Nat) : ∀ (vs : List Value) (p : Nat) (w : World), (w.setCells b p vs).heap.size = w.heap.size
  | [], _, _ => rfl
  | v :: vs, p, w => by rw [World.setCells, setCells_size b vs, World.size_setCell]
theorem Below_setCells {b : Nat} (hb : B ≤ b) : ∀ (vs : List Value) (p : Nat) {w0 w : World}, Below B w0 w → Below B w0 (w.setCells b p vs)
  | [], _, _, _, h => h
  | v :: vs, p, _, _, h => by
    rw [World.setCells]
    exact Below_setCells hb vs (p + 1) (h.setCell hb v)
theorem Free_setCells {b' : Nat} {b o n : Nat} : ∀ (vs : List Value) (p : Nat) {w : World}, Free w b o n → Free (w.setCells b' p vs) b o n
  | [], _, _, h => h
  | v :: vs, p, _, h => by
    rw [World.setCells]
    exact Free_setCells vs (p + 1) (Free_setCell h)
/-- append in place: the row goes on under another number. -/
theorem Mem.extend (h : Mem S K B rows used ρ Fp w) (hsub : S.sub K) {r id off n : Nat} {row : Row} {new : List C} {vs : List Value} (hr : rows r = some row) (hid : used id = false) (hl : off + n ≤ row.cells.length) (hext : off + n + vs.length ≤ (ρ r).ext) (hc : ∀ (i : Nat) (c : C), new[i]? = some c → ∃ y : Value, vs[i]? = some y ∧ CellR S w (plOf rows ρ) c y FS.none)
    (hvl : vs.length = new.length) (hk : C.okL used new) :
    Mem S K B (upd (upd rows r none) id (some ⟨(row.cells.drop off).take n ++ new⟩)) (upd used id true) (upd ρ id ⟨(ρ r).b, (ρ r).o + off, (ρ r).ext - off⟩) (upd Fp id (Fp r)) (w.setCells (ρ r).b ((ρ r).o + off + n) vs) ∧
    Same K w (w.setCells (ρ r).b ((ρ r).o + off + n) vs) ∧ Below B w (w.setCells (ρ r).b ((ρ r).o + off + n) vs) := by
  obtain ⟨G, h1, h2, h3, h4, h5, h6⟩ := h.row r row hr
  have hin : ∀ o, (ρ r).o + off + n ≤ o → o < (ρ r).o + off + n + vs.length → (ρ r).fs (ρ r).b o := fun o ho1 ho2 => ⟨rfl, by omega, by omega⟩
  have hKs : Same K w (w.setCells (ρ r).b ((ρ r).o + off + n) vs) := Same_setCells fun o ho1 ho2 hk => h.kdis r row hr _ _ (h3 _ _ (hin o ho1 ho2)) hk
  have hSs := hKs.mono hsub
  have hGs : Same G w (w.setCells (ρ r).b ((ρ r).o + off + n) vs) := Same_setCells fun o ho1 ho2 hg => h5 _ _ (hin o ho1 ho2) hg
  have hFo : ∀ j row', j ≠ r → rows j = some row' → Same (Fp j) w (w.setCells (ρ r).b ((ρ r).o + off + n) vs) := fun j row' hj hrj => Same_setCells fun o ho1 ho2 hf => h.sep r j row row' (Ne.symm hj) hr hrj _ _ (h3 _ _ (hin o ho1 ho2)) hf
  have hB : B ≤ (ρ r).b ∨ vs.length = 0 := by
    by_cases hv : vs.length = 0
    · exact .inr hv
    · exact .inl (h.low r row hr _ _ (h3 _ _ (hin ((ρ r).o + off + n) (Nat.le_refl _) (by omega)))).1
  have hbel : Below B w (w.setCells (ρ r).b ((ρ r).o + off + n) vs) := by
    rcases hB with hB | hB
    · exact Below_setCells hB vs _ (Below.refl _ _)
    · have : vs = [] := List.length_eq_zero_iff.1 hB
      subst this
      exact Below.refl _ _
  refine ⟨?_, hKs, hbel⟩
  have hd := (h.del r).world (w' := w.setCells (ρ r).b ((ρ r).o + off + n) vs) hSs (fun j row' hj => by
    have hne : j ≠ r := by rintro rfl; simp at hj
    rw [upd_ne hne] at hj
    exact hFo j row' hne hj) (by rw [setCells_size]; exact Nat.le_refl _)
  have hplm : ∀ j p, used j = true → plOf (upd rows r none) ρ j = some p → plOf rows ρ j = some p := fun j p _ hp => plOf_del j p hp
  refine hd.add (G := G) hid ?_ ?_ ?_ ?_ h4 ?_ ?_ ?_ ?_ ?_
  · have hmid := RowR_mid h1 off n hl
    have hmid' : RowR S (w.setCells (ρ r).b ((ρ r).o + off + n) vs) (plOf (upd rows r none) ρ) ((row.cells.drop off).take n) (ρ r).b ((ρ r).o + off) G := by
      refine RowR_mono FS.sub.refl hSs _ (u := used) hplm (okL_mid (h.okc r row hr).2 off n) FS.sub.refl hGs (fun j hj => ?_) hmid
      refine World.cell?_setCells_out _ _ _ _ _ (fun _ _ => .inl ?_)
      rw [List.length_take] at hj
      simp only
      omega
    have hnew : RowR S (w.setCells (ρ r).b ((ρ r).o + off + n) vs) (plOf (upd rows r none) ρ) new (ρ r).b ((ρ r).o + off + ((row.cells.drop off).take n).length) FS.none := by
      refine RowR_mk _ fun i c hi => ?_
      obtain ⟨y, e1, e2⟩ := hc i c hi
      have hil : i < vs.length := (List.getElem?_eq_some_iff.1 e1).1
      have e3 : ((row.cells.drop off).take n).length = n := by rw [List.length_take, List.length_drop]; omega
      refine ⟨y, ?_, CellR_mono FS.sub.refl hSs (u := used) hplm (okL_get hk hi) FS.sub.refl (fun _ _ hf => hf.elim) e2⟩
      rw [e3, World.cell?_setCells_in _ vs _ w (fun j hj => by
        have := (h6 (off + n + j) (by omega)).1
        rwa [show (ρ r).o + (off + n + j) = (ρ r).o + off + n + j by omega] at this) i hil]
      rw [List.getElem?_eq_getElem hil] at e1
      exact e1
    exact RowR_fs _ (FS.or_sub FS.sub.refl FS.none_sub) (RowR_append _ _ hmid' hnew FS.dis_none)
  · exact okL_append.2 ⟨okL_mid (h.okc r row hr).2 off n, hk⟩
  · rw [List.length_append, List.length_take, List.length_drop]; simp only; omega
  · exact fun b' o' ⟨e1, e2, e3⟩ => h3 _ _ ⟨e1, by simp only at e2; omega, by simp only at e3; omega⟩
  · exact fun b' o' ⟨e1, e2, e3⟩ hg => h5 _ _ ⟨e1, by simp only at e2; omega, by simp only at e3; omega⟩ hg
  · refine Free_setCells vs _ fun j hj => ?_
    have := h6 (off + j) (by simp only at hj; omega)
    simp only
    rwa [show (ρ r).o + (off + j) = (ρ r).o + off + j by omega] at this
  · intro j row' hj
    have hne : j ≠ r := by rintro rfl; simp at hj
    rw [upd_ne hne] at hj
    exact h.sep r j row row' (Ne.symm hne) hr hj
  · exact h.kdis r row hr
  · intro b' o' hf
    rw [setCells_size]
    exact h.low r row hr b' o' hf
/-- append that moves: the cells go on in a new block. -/
theorem Mem.moved (h : Mem S K B rows used ρ Fp w) (hsub : S.sub K) (hKlt : ∀ b o, K b o → b < w.heap.size) (hB : B ≤ w.heap.size) {r id off n : Nat} {row : Row} {new : List C} {olds vs zz : List Value} {ty : TypeId} (hr : rows r = some row) (hid : used id = false) (hl : off + n ≤ row.cells.length)
    (hold : w.rangeAt (ρ r).b ((ρ r).o + off) olds) (hol : olds.length = n) (hc : ∀ (i : Nat) (c : C), new[i]? = some c → ∃ y : Value, vs[i]? = some y ∧ CellR S w (plOf rows ρ) c y FS.none) (hvl : vs.length = new.length) (hk : C.okL used new) :
    Mem S K B (upd (upd rows r none) id (some ⟨(row.cells.drop off).take n ++ new⟩)) (upd used id true) (upd ρ id ⟨w.heap.size, 0, (olds ++ vs ++ zz).length⟩) (upd Fp id ((chunk w.heap.size 0 (olds ++ vs ++ zz).length).or (Fp r))) (w.alloc (.cells (olds ++ vs ++ zz).toArray ty)) ∧
    Same K w (w.alloc (.cells (olds ++ vs ++ zz).toArray ty)) ∧ Below B w (w.alloc (.cells (olds ++ vs ++ zz).toArray ty)) := by
  obtain ⟨G, h1, h2, h3, h4, h5, h6⟩ := h.row r row hr
  have hKs : Same K w (w.alloc (.cells (olds ++ vs ++ zz).toArray ty)) := Same_alloc hKlt
  have hSs := hKs.mono hsub
  have hGs : Same G w (w.alloc (.cells (olds ++ vs ++ zz).toArray ty)) := Same_alloc fun b o hg => (h.low r row hr b o (h4 b o hg)).2
  refine ⟨?_, hKs, (Below.refl _ _).alloc hB _⟩
  have hd := (h.del r).world (w' := w.alloc (.cells (olds ++ vs ++ zz).toArray ty)) hSs (fun j row' hj => by
    have hne : j ≠ r := by rintro rfl; simp at hj
    rw [upd_ne hne] at hj
    exact Same_alloc fun b o hf => (h.low j row' hj b o hf).2) (by simp)
  have hplm : ∀ j p, used j = true → plOf (upd rows r none) ρ j = some p → plOf rows ρ j = some p := fun j p _ hp => plOf_del j p hp
  have e3 : ((row.cells.drop off).take n).length = n := by rw [List.length_take, List.length_drop]; omega
  refine hd.add (G := G) hid ?_ ?_ ?_ FS.sub_or_left (h4.trans FS.sub_or_right) ?_ ?_ ?_ ?_ ?_
  · have hmid := RowR_mid h1 off n hl
    have hmid' : RowR S (w.alloc (.cells (olds ++ vs ++ zz).toArray ty)) (plOf (upd rows r none) ρ) ((row.cells.drop off).take n) w.heap.size 0 G := by
      refine RowR_move _ (u := used) hplm (okL_mid (h.okc r row hr).2 off n) hSs hGs (fun j x hj hx => ?_) hmid
      rw [e3] at hj
      have hjo : j < olds.length := by omega
      have e4 := hold j _ (List.getElem?_eq_getElem hjo)
      rw [hx] at e4
      simp only [Nat.zero_add, World.cell?_alloc_new, List.getElem?_toArray, List.append_assoc]
      rw [List.getElem?_append_left hjo, List.getElem?_eq_getElem hjo]
      exact e4.symm
    have hnew : RowR S (w.alloc (.cells (olds ++ vs ++ zz).toArray ty)) (plOf (upd rows r none) ρ) new w.heap.size (0 + ((row.cells.drop off).take n).length) FS.none := by
      refine RowR_mk _ fun i c hi => ?_
      obtain ⟨y, e1, e2⟩ := hc i c hi
      have hil : i < vs.length := (List.getElem?_eq_some_iff.1 e1).1
      refine ⟨y, ?_, CellR_mono FS.sub.refl hSs (u := used) hplm (okL_get hk hi) FS.sub.refl (fun _ _ hf => hf.elim) e2⟩
      simp only [e3, Nat.zero_add, World.cell?_alloc_new, List.getElem?_toArray, List.append_assoc]
      rw [List.getElem?_append_right (by omega), List.getElem?_append_left (by omega), show n + i - olds.length = i by omega]
      exact e1
    exact RowR_fs _ (FS.or_sub FS.sub.refl FS.none_sub) (RowR_append _ _ hmid' hnew FS.dis_none)
  · exact okL_append.2 ⟨okL_mid (h.okc r row hr).2 off n, hk⟩
  · simp only [List.length_append, e3]; omega
  · intro b' o' hf hg
    have e1 := hf.1
    have := (h.low r row hr _ _ (h4 _ _ hg)).2
    simp only at e1
    omega
  · intro j hj
    simp only [Nat.zero_add]
    refine ⟨by rw [World.cell?_alloc_new]; simp only [List.getElem?_toArray]; rw [List.getElem?_eq_getElem hj]; rfl, World.frozen?_alloc_new _ _ _ _⟩
  · intro j row' hj
    have hne : j ≠ r := by rintro rfl; simp at hj
    rw [upd_ne hne] at hj
    refine FS.or_dis (fun b o h7 h8 => ?_) (h.sep r j row row' (Ne.symm hne) hr hj)
    have e1 := h7.1
    have := (h.low j row' hj b o h8).2
    omega
  · refine FS.or_dis (fun b o h7 h8 => ?_) (h.kdis r row hr)
    have e1 := h7.1
    have := hKlt b o h8
    omega
  · intro b o hf
    rw [World.size_alloc]
    rcases hf with hf | hf
    · have e1 := hf.1
      omega
    · have := h.low r row hr b o hf
      omega
end
end Go.Eng
namespace Go.Eng
open Go.RowKit (Below)
section
variable {P : Program} {X : Ctx} {o : Oper} {st st' : St} {a : Act} {w w' : World} {S K : FS} {B : Nat} {pl : Nat → Option Pl} {used : Nat → Bool} {rows : Nat → Option Row} {ρ : Nat → Pl} {Fp : Nat → FS}
theorem run_append_zero {t u e ty : TypeId} {E : Nat} {ad : Option Addr} {x : Value} (ht : tyElem P t = some e) (hu : notInt P u = true) (hE : tySize P e = some E) (hlen : ∀ w', (Builtin.lenOf x).run P w' = .ok 0 w')
    (hfirst : (Builtin.firstCells E 0 x).run P w = .ok #[] w) : (Builtin.append_ #[t, u] ty #[.slice ad 0 0, x]).run P w = .ok (.slice ad 0 0) w := by
  cases ad with
  | none => exact run_append_none ht hu hE hlen hfirst (Nat.le_refl _)
  | some ad =>
    obtain ⟨d, hd, hdn⟩ := run_notInt hu
    simp only [Builtin.append_, List.getElem?_toArray, List.getElem?_cons_zero, List.getElem?_cons_succ, Sem.run_bind, run_underlying (tyElem_under ht), Result.andThen_ok, run_size hE, hd, Sem.run_pure]
    cases d <;> first
      | exact absurd rfl (hdn _)
      | simp only [Bool.false_eq_true, if_false, Bool.not_false, if_true, Sem.run_bind, hlen, Result.andThen_ok, Nat.add_zero, Nat.le_refl, hfirst, storeCells, Sem.run_pure]
theorem exec_append {call : Call} {x y : Operand} {t u : TypeId} (ho : o.op = .call call) (hca : call.callee = .builtin .append) (hargs : call.args = #[x, y]) (hty : call.argTypes = #[t, u]) {v : Value} (h : (Builtin.append_ #[t, u] o.type #[a.eval x, a.eval y]).run P w = .ok v w') : (execOp a.eval o).run P w = .ok (.value v) w' := by
  unfold execOp
  simp only [ho, resolve, hca, hargs, hty, invoke, builtin, Sem.run_bind, Sem.run_pure, Result.andThen_ok, List.map_toArray, List.map_cons, List.map_nil, h]
theorem goes_append (h : R X st a w) {call : Call} {x y : Operand} {t u e : TypeId} {r off E len m Bt id : Nat} {row : Row} {c : C} {ds : List C} {zs : List Value} (ho : o.op = .call call) (hca : call.callee = .builtin .append) (hargs : call.args = #[x, y]) (hty : call.argTypes = #[t, u]) (ht : tyElem P t = some e) (hu : notInt P u = true)
    (hE : tySize P e = some E) (hB : tyBytes P e = some Bt) (hB0 : 0 < Bt) (hz : tyZero P e = some zs) (hzn : zs.length = E) (hx : st.ev x = some (.sr r off E len)) (hr : st.rows r = some row) (hl : off + len * E ≤ row.cells.length) (hy : st.ev y = some c) (hs : srcC st.rows E c = some (m, ds)) (h1 : ds.all oneC = true) (hbig : (len + m) * Bt ≤ 140737488355328)
    (hid : st.used id = false) (hd : st.fits o.dst) :
    Goes P X o a w { st.put o.dst (.sr id 0 E (len + m)) with rows := upd (upd st.rows r none) id (some ⟨(row.cells.drop off).take (len * E) ++ ds.map toCell⟩), used := upd st.used id true } := by
  obtain ⟨ρ, Fp, m1, m2⟩ := h.mem
  obtain ⟨e0, ek⟩ := ev_eval m2 hx
  simp only [CR] at e0
  obtain ⟨ad, cap, e1, e2, e3⟩ := e0
  obtain ⟨f1, f2⟩ := ev_eval m2 hy
  obtain ⟨vs, g1, g2, g3, g4, g5⟩ := srcC_R m1 f1 f2 hs
  have g6 := CRL_one g2 h1
  have g7 := CRL_length g2
  obtain ⟨G, k1, k2, k3, k4, k5, k6⟩ := m1.row r row hr
  have hvs : vs.take (m * E) = vs := List.take_of_length_le (by omega)
  have hfirst : ∀ w', (∀ ad, w'.cell? ad = w.cell? ad) → (Builtin.firstCells E m (a.eval y)).run P w' = .ok vs.toArray w' := fun w' hw' => by
    have := g5 w' m hw' (Nat.le_refl _)
    rwa [hvs] at this
  have hc := CRL_cells g2
  have hok : C.ok (upd st.used id true) (.sr id 0 E (len + m)) := by simp only [C.ok, upd_self]
  by_cases hroom : len + m ≤ cap
  · -- in place
    rcases e3 _ (plOf_some hr) with e4 | ⟨e4, e5⟩
    · subst e4
      have hlen0 : len = 0 := by omega
      have hm0 : m = 0 := by omega
      subst hlen0 hm0
      have hv0 : vs = [] := List.length_eq_zero_iff.1 (by simpa using g1)
      subst hv0
      obtain ⟨n1, n2, n3⟩ := m1.extend (off := off) (n := 0 * E) h.hsub hr hid hl (by simp; omega) hc (by simpa using g7) (okL_map_toCell g3)
      refine goes_value (exec_append ho hca hargs hty (by rw [e1]; exact run_append_zero ht hu hE g4 (hfirst w fun _ => rfl))) (h.step m2 hd n3 n2 n1 (plOf_fresh hid fun _ _ => plOf_del _ _) used_upd ?_ hok)
      simp only [CR]
      exact ⟨ad, 0, rfl, Nat.le_refl _, fun _ _ => .inl rfl⟩
    · have hcapE : len * E + m * E ≤ cap * E := by rw [← Nat.add_mul]; exact Nat.mul_le_mul_right _ hroom
      obtain ⟨n1, n2, n3⟩ := m1.extend (off := off) (n := len * E) h.hsub hr hid hl (by rw [g1]; omega) hc (by simpa using g7) (okL_map_toCell g3)
      have hth : w.there (ρ r).b ((ρ r).o + off + len * E) vs.length := fun j hj => by
        have := k6 (off + len * E + j) (by omega)
        rwa [show (ρ r).o + (off + len * E + j) = (ρ r).o + off + len * E + j by omega] at this
      refine goes_value (exec_append ho hca hargs hty (by rw [e1, e4]; exact run_append_room ht hu hE g4 (hfirst w fun _ => rfl) g6 hth hroom)) (h.step m2 hd n3 n2 n1 (plOf_fresh hid fun _ _ => plOf_del _ _) used_upd ?_ hok)
      simp only [CR]
      refine ⟨_, cap, rfl, hroom, fun p hp => .inr ?_⟩
      simp only [plOf, upd_self, Option.some.injEq] at hp
      subst hp
      exact ⟨by simp, by simp only; omega⟩
  · -- moved
    obtain ⟨olds, p1, p2⟩ := RowR_range _ (RowR_mid k1 off (len * E) hl)
    have p3 : olds.length = len * E := by rw [p2, List.length_take, List.length_drop]; omega
    have hold : (Builtin.firstCells E len (.slice ad len cap)).run P w.drew = .ok olds.toArray w.drew := by
      rcases e3 _ (plOf_some hr) with e4 | ⟨e4, e5⟩
      · have hlen0 : len = 0 := by omega
        subst hlen0
        have ho0 : olds = [] := List.length_eq_zero_iff.1 (by simpa using p3)
        subst ho0
        cases ad with
        | none => simp [Builtin.firstCells]
        | some ad => simp [Builtin.firstCells, loadCells, loadCellsFrom]
      · rw [e4]
        have := run_first (P := P) (E := E) (k := len) (len := len) (cap := cap) (rangeAt_same (w' := w.drew) p1 fun _ => rfl) (by omega)
        rwa [List.take_of_length_le (by omega)] at this
    obtain ⟨cap', zz, q1, q2, q3⟩ := run_append_grow (w := w) (ty := o.type) (base := ad) ht hu hE hB hB0 hz g4 (hfirst w.drew fun _ => rfl) hold (by omega) hbig
    have hdr : Mem X.S X.K X.B st.rows st.used ρ Fp w.drew := m1.world Same_drew (fun _ _ _ => Same_drew) (Nat.le_refl _)
    have hcd : ∀ (i : Nat) (c : C), (ds.map toCell)[i]? = some c → ∃ y : Value, vs[i]? = some y ∧ CellR X.S w.drew (plOf st.rows ρ) c y FS.none := fun i c hi => by
      obtain ⟨y, y1, y2⟩ := hc i c hi
      exact ⟨y, y1, CellR_mono FS.sub.refl Same_drew (u := st.used) (fun _ _ _ => _root_.id) (okL_get (okL_map_toCell g3) hi) FS.sub.refl Same_drew y2⟩
    obtain ⟨n1, n2, n3⟩ := hdr.moved (ty := e) (zz := zz) (off := off) h.hsub h.heap.2 h.heap.1 hr hid hl (rangeAt_same (w' := w.drew) p1 fun _ => rfl) p3 hcd (by simpa using g7) (okL_map_toCell g3)
    refine goes_value (exec_append ho hca hargs hty (by rw [e1]; exact q3)) (h.step m2 hd ((Below.refl _ _).drew.trans n3) (Same.trans Same_drew n2) n1 (plOf_fresh hid fun _ _ => plOf_del _ _) used_upd ?_ hok)
    simp only [CR]
    refine ⟨_, cap', rfl, q1, fun p hp => .inr ?_⟩
    simp only [plOf, upd_self, Option.some.injEq] at hp
    subst hp
    refine ⟨rfl, ?_⟩
    have hs1 : (cap' - (len + m)) * E + (len + m) * E = cap' * E := by rw [← Nat.add_mul]; congr 1; omega
    rw [Nat.add_mul] at hs1
    subst q2
    simp only [List.length_append, flat_length, hzn, p3, g1]
    omega
/-- append to nothing. -/
theorem goes_appendNil (h : R X st a w) {call : Call} {x y : Operand} {t u e : TypeId} {E m Bt id : Nat} {c : C} {ds : List C} {zs : List Value} (ho : o.op = .call call) (hca : call.callee = .builtin .append) (hargs : call.args = #[x, y]) (hty : call.argTypes = #[t, u]) (ht : tyElem P t = some e) (hu : notInt P u = true)
    (hE : tySize P e = some E) (hB : tyBytes P e = some Bt) (hB0 : 0 < Bt) (hz : tyZero P e = some zs) (hzn : zs.length = E) (hx : st.ev x = some (.v (.sc (.slice none 0 0)))) (hy : st.ev y = some c) (hs : srcC st.rows E c = some (m, ds)) (h1 : ds.all oneC = true) (hm : 0 < m) (hbig : m * Bt ≤ 140737488355328)
    (hid : st.used id = false) (hd : st.fits o.dst) :
    Goes P X o a w { st.put o.dst (.sr id 0 E m) with rows := upd st.rows id (some ⟨ds.map toCell⟩), used := upd st.used id true } := by
  obtain ⟨ρ, Fp, m1, m2⟩ := h.mem
  have e1 := ev_sc h hx
  obtain ⟨f1, f2⟩ := ev_eval m2 hy
  obtain ⟨vs, g1, g2, g3, g4, g5⟩ := srcC_R m1 f1 f2 hs
  have g7 := CRL_length g2
  have hvs : vs.take (m * E) = vs := List.take_of_length_le (by omega)
  have hfirst : ∀ w', (∀ ad, w'.cell? ad = w.cell? ad) → (Builtin.firstCells E m (a.eval y)).run P w' = .ok vs.toArray w' := fun w' hw' => by
    have := g5 w' m hw' (Nat.le_refl _)
    rwa [hvs] at this
  obtain ⟨cap', zz, q1, q2, q3⟩ := run_append_grow (w := w) (ty := o.type) (base := none) (sLen := 0) (sCap := 0) (olds := []) ht hu hE hB hB0 hz g4 (hfirst w.drew fun _ => rfl) (by simp [Builtin.firstCells]) (by omega) (by rw [Nat.zero_add]; exact hbig)
  have hdr : Mem X.S X.K X.B st.rows st.used ρ Fp w.drew := m1.world Same_drew (fun _ _ _ => Same_drew) (Nat.le_refl _)
  have hcd : ∀ (i : Nat) (c : C), (ds.map toCell)[i]? = some c → ∃ y : Value, (vs ++ zz)[i]? = some y ∧ CellR X.S w.drew (plOf st.rows ρ) c y FS.none := fun i c hi => by
    obtain ⟨y, y1, y2⟩ := CRL_cells g2 i c hi
    exact ⟨y, by rw [List.getElem?_append_left (List.getElem?_eq_some_iff.1 y1).1]; exact y1, CellR_mono FS.sub.refl Same_drew (u := st.used) (fun _ _ _ => _root_.id) (okL_get (okL_map_toCell g3) hi) FS.sub.refl Same_drew y2⟩
  simp only [List.nil_append, Nat.zero_add] at q1 q2 q3
  obtain ⟨n1, n2, n3⟩ := hdr.alloc (ty := e) h.hsub h.heap.2 h.heap.1 hid hcd (by rw [List.length_map, List.length_append]; omega) (okL_map_toCell g3)
  refine goes_value (exec_append ho hca hargs hty (by rw [e1]; exact q3)) (h.step m2 hd ((Below.refl _ _).drew.trans n3) (Same.trans Same_drew n2) n1 (plOf_fresh hid fun _ _ => _root_.id) used_upd ?_ (by simp only [C.ok, upd_self]))
  simp only [CR]
  refine ⟨_, cap', rfl, by omega, fun p hp => .inr ?_⟩
  simp only [plOf, upd_self, Option.some.injEq] at hp
  subst hp
  refine ⟨rfl, ?_⟩
  have hs1 : (cap' - m) * E + m * E = cap' * E := by rw [← Nat.add_mul]; congr 1; omega
  subst q2
  simp only [List.length_append, flat_length, hzn, g1, Nat.zero_add]
  omega
theorem run_copy {t u e ty : TypeId} {E n m b p dCap dLen : Nat} {x : Value} {vs : List Value} (ht : tyElem P t = some e) (hE : tySize P e = some E) (hlen : ∀ w', (Builtin.lenOf x).run P w' = .ok m w') (hn : n = Nat.min m dLen)
    (hfirst : (Builtin.firstCells E n x).run P w = .ok vs.toArray w) (h1 : ∀ v ∈ vs, v.oneCell' = true) (hth : w.there b p vs.length) :
    (Builtin.copy_ #[t, u] ty #[.slice (some ⟨b, p, none⟩) dLen dCap, x]).run P w = .ok (goInt n) (w.setCells b p vs) := by
  have hst := run_storeCells_cells (P := P) b p vs 0 w (fun j hj => by simpa using (hth j hj).1) (fun j hj => by simpa using (hth j hj).2) h1
  simp only [Nat.add_zero] at hst
  subst hn
  simp only [Builtin.copy_, List.getElem?_toArray, List.getElem?_cons_zero, List.getElem?_cons_succ, Sem.run_bind, run_underlying (tyElem_under ht), Result.andThen_ok, hlen, run_size hE, hfirst, hst, Sem.run_pure]
theorem goes_copy (h : R X st a w) {call : Call} {x y : Operand} {t u e : TypeId} {r off E len m : Nat} {row : Row} {c : C} {ds : List C} (ho : o.op = .call call) (hca : call.callee = .builtin .copy) (hargs : call.args = #[x, y]) (hty : call.argTypes = #[t, u]) (ht : tyElem P t = some e)
    (hE : tySize P e = some E) (hx : st.ev x = some (.sr r off E len)) (hr : st.rows r = some row) (hl : off + len * E ≤ row.cells.length) (hy : st.ev y = some c) (hs : srcC st.rows E c = some (m, ds)) (h1 : ds.all oneC = true) (hlen0 : 0 < len) (hd : st.fits o.dst) :
    Goes P X o a w { st.put o.dst (.v (.sc (.int .i64 (Nat.min m len)))) with rows := upd st.rows r (some ⟨setRange row.cells off ((ds.take (Nat.min m len * E)).map toCell)⟩), used := st.used } := by
  obtain ⟨ρ, Fp, m1, m2⟩ := h.mem
  obtain ⟨e0, ek⟩ := ev_eval m2 hx
  simp only [CR] at e0
  obtain ⟨ad, cap, e1, e2, e3⟩ := e0
  obtain ⟨f1, f2⟩ := ev_eval m2 hy
  obtain ⟨vs, g1, g2, g3, g4, g5⟩ := srcC_R m1 f1 f2 hs
  have g2' := CRL_take (Nat.min m len * E) g2
  have h1' : (ds.take (Nat.min m len * E)).all oneC = true := List.all_eq_true.2 fun d hd => List.all_eq_true.1 h1 d (List.mem_of_mem_take hd)
  have g6 := CRL_one g2' h1'
  have g7 := CRL_length g2'
  have g3' : C.okL st.used (ds.take (Nat.min m len * E)) := okL_iff.2 fun d hd => okL_iff.1 g3 d (List.mem_of_mem_take hd)
  obtain ⟨G, k1, k2, k3, k4, k5, k6⟩ := m1.row r row hr
  have hmin : Nat.min m len * E ≤ len * E := Nat.mul_le_mul_right _ (Nat.min_le_right _ _)
  have hvl : (vs.take (Nat.min m len * E)).length ≤ len * E := by rw [List.length_take]; omega
  rcases e3 _ (plOf_some hr) with e4 | ⟨e4, e5⟩
  · omega
  · have hth : w.there (ρ r).b ((ρ r).o + off) (vs.take (Nat.min m len * E)).length := fun j hj => by
      have := k6 (off + j) (by omega)
      rwa [show (ρ r).o + (off + j) = (ρ r).o + off + j by omega] at this
    obtain ⟨n1, n2, n3⟩ := Mem.setN (B := X.B) (used := st.used) h.hsub (r := r) ((ds.take (Nat.min m len * E)).map toCell) (vs.take (Nat.min m len * E)) (off := off) m1 hr (by rw [List.length_map]; omega) (CRL_cells g2') (by rw [List.length_map]; exact g7) (okL_map_toCell g3')
    refine goes_value (v := goInt (Nat.min m len)) (w' := w.setCells (ρ r).b ((ρ r).o + off) (vs.take (Nat.min m len * E))) ?_ (h.step m2 hd n3 n2 n1 (fun r p _ hp => by rwa [plOf_upd_some hr] at hp) (fun _ => _root_.id) (by simp only [CR, VI, goInt]) (by simp only [C.ok]))
    unfold execOp
    have := run_copy (w := w) (u := u) (ty := o.type) (dCap := cap) ht hE g4 rfl (g5 w _ (fun _ => rfl) (Nat.min_le_left m len)) g6 hth
    simp only [ho, resolve, hca, hargs, hty, invoke, builtin, Sem.run_bind, Sem.run_pure, Result.andThen_ok, List.map_toArray, List.map_cons, List.map_nil, e1, e4, this]
end
end Go.Eng
namespace Go.Eng
open Go.RowKit (Below)
abbrev Rows := Nat → Option Row
def mapClo (g : Rows → C → Option (V × Rows)) : Rows → List C → Option (List V × Rows)
  | rows, [] => some ([], rows)
  | rows, c :: cs => match g rows c with
    | some (t, rows1) => match mapClo g rows1 cs with
      | some (ts, rows2) => some (t :: ts, rows2)
      | none => none
    | none => none
/-- What is told by references becomes a tree; the rows that go into it are gone. -/
def clo : Nat → Rows → C → Option (V × Rows)
  | 0, _, _ => none
  | n + 1, rows, c => match c with
    | .v (.sc x) => some (.sc x, rows)
    | .v t => some (.im t, rows)
    | .own t => some (t, rows)
    | .sr r off E len => match rows r with
      | some row => if off + len * E ≤ row.cells.length then (mapClo (clo n) (upd rows r none) ((row.cells.drop off).take (len * E))).map fun q => (.sl E len q.1, q.2) else none
      | none => none
    | .pr r off => match rows r with
      | some row => if off = 0 then (mapClo (clo n) (upd rows r none) row.cells).map fun q => (.bx q.1, q.2) else none
      | none => none
    | .ag cs => (mapClo (clo n) rows cs).map fun q => (.ag q.1, q.2)
    | .tp cs => (mapClo (clo n) rows cs).map fun q => (.tp q.1, q.2)
    | .fn f cs => (mapClo (clo n) rows cs).map fun q => (.fn f q.1, q.2)
    | .dead => none
/-- The same for reading alone. -/
def mapSnap (g : C → Option V) : List C → Option (List V)
  | [] => some []
  | c :: cs => match g c, mapSnap g cs with
    | some t, some ts => some (t :: ts)
    | _, _ => none
def snap (rows : Rows) : Nat → C → Option V
  | 0, _ => none
  | n + 1, c => match c with
    | .v t => some t
    | .own t => some t
    | .sr r off E len => match rows r with
      | some row => if off + len * E ≤ row.cells.length then (mapSnap (snap rows n) ((row.cells.drop off).take (len * E))).map fun q => .sl E len q else none
      | none => none
    | .pr r off => match rows r with
      | some row => (mapSnap (snap rows n) (row.cells.drop off)).map fun q => .bx q
      | none => none
    | .ag cs => (mapSnap (snap rows n) cs).map fun q => .ag q
    | .tp cs => (mapSnap (snap rows n) cs).map fun q => .tp q
    | .fn f cs => (mapSnap (snap rows n) cs).map fun q => .fn f q
    | .dead => none
def gone (rows rows' : Rows) (Fp : Nat → FS) : FS := fun b o => ∃ r row, rows r = some row ∧ rows' r = none ∧ Fp r b o
section
variable {P : Program} {X : Ctx} {o : Oper} {st st' : St} {a : Act} {w w' : World} {S K : FS} {B : Nat} {pl : Nat → Option Pl} {used : Nat → Bool} {rows0 : Rows} {ρ : Nat → Pl} {Fp : Nat → FS}
def Subr (rows' rows : Rows) : Prop := ∀ r row, rows' r = some row → rows r = some row
theorem Subr.del {rows : Rows} {r : Nat} : Subr (upd rows r none) rows := fun j row h => by
  have hne : j ≠ r := by rintro rfl; simp at h
  rwa [upd_ne hne] at h
theorem gone_mono {r1 r2 r3 : Rows} (h12 : Subr r2 r1) (h23 : Subr r3 r2) : (gone r1 r2 Fp).sub (gone r1 r3 Fp) ∧ (gone r2 r3 Fp).sub (gone r1 r3 Fp) := by
  refine ⟨fun b o ⟨r, row, h1, h2, h3⟩ => ⟨r, row, h1, ?_, h3⟩, fun b o ⟨r, row, h1, h2, h3⟩ => ⟨r, row, h12 r row h1, h2, h3⟩⟩
  cases h : r3 r with
  | none => rfl
  | some row' => rw [h23 r row' h] at h2; cases h2
/-- What one closing step shows. -/
def CloOK (S : FS) (w : World) (pl : Nat → Option Pl) (Fp : Nat → FS) (rows0 : Rows) (g : Rows → C → Option (V × Rows)) : Prop := ∀ rows c x G t rows', Subr rows rows0 → CellR S w pl c x G → (∀ r row, rows r = some row → G.dis (Fp r)) → g rows c = some (t, rows') →
  Subr rows' rows ∧ ∃ F, VO S w t x F ∧ F.sub (G.or (gone rows rows' Fp))
theorem gone_dis (hm : Mem S K B rows0 used ρ Fp w) {r1 r2 r3 : Rows} (h0 : Subr r1 rows0) (h12 : Subr r2 r1) {G1 G2 F1 F2 : FS} (hg : G1.dis G2) (d1 : ∀ r row, r1 r = some row → G1.dis (Fp r)) (d2 : ∀ r row, r1 r = some row → G2.dis (Fp r)) (s1 : F1.sub (G1.or (gone r1 r2 Fp))) (s2 : F2.sub (G2.or (gone r2 r3 Fp))) : F1.dis F2 := by
  intro b o h1 h2
  rcases s1 b o h1 with h1 | ⟨r, row, e1, e2, e3⟩
  · rcases s2 b o h2 with h2 | ⟨r', row', f1, f2, f3⟩
    · exact hg b o h1 h2
    · exact d1 r' row' (h12 r' row' f1) b o h1 f3
  · rcases s2 b o h2 with h2 | ⟨r', row', f1, f2, f3⟩
    · exact d2 r row e1 b o h2 e3
    · have hne : r ≠ r' := by rintro rfl; rw [e2] at f1; cases f1
      exact hm.sep r r' row row' hne (h0 r row e1) (h0 r' row' (h12 r' row' f1)) b o e3 f3
theorem mapClo_CO (hm : Mem S K B rows0 used ρ Fp w) {g : Rows → C → Option (V × Rows)} (hg : CloOK S w pl Fp rows0 g) : ∀ (cs : List C) {rows rows' : Rows} {b o : Nat} {G : FS} {ts : List V}, Subr rows rows0 → RowR S w pl cs b o G → (∀ r row, rows r = some row → G.dis (Fp r)) → mapClo g rows cs = some (ts, rows') →
    Subr rows' rows ∧ ts.length = cs.length ∧ ∃ F, CO S w ts b o F ∧ F.sub (G.or (gone rows rows' Fp))
  | [], rows, rows', b, o, G, ts, h0, hr, hd, h => by
    simp only [mapClo, Option.some.injEq, Prod.mk.injEq] at h
    obtain ⟨rfl, rfl⟩ := h
    exact ⟨fun _ _ => id, rfl, FS.none, by simp only [CO], FS.none_sub⟩
  | c :: cs, rows, rows', b, o, G, ts, h0, hr, hd, h => by
    simp only [mapClo] at h
    split at h
    · rename_i t rows1 h1
      split at h
      · rename_i ts' rows2 h2
        simp only [Option.some.injEq, Prod.mk.injEq] at h
        obtain ⟨rfl, rfl⟩ := h
        simp only [RowR] at hr
        obtain ⟨x, G1, G2, k1, k2, k3, k4, k5, k6⟩ := hr
        have d1 : ∀ r row, rows r = some row → G1.dis (Fp r) := fun r row hr => (hd r row hr).mono k5 FS.sub.refl
        have d2 : ∀ r row, rows r = some row → G2.dis (Fp r) := fun r row hr => (hd r row hr).mono k6 FS.sub.refl
        obtain ⟨e1, F1, e2, e3⟩ := hg rows c x G1 t rows1 h0 k2 d1 h1
        obtain ⟨f1, f0, F2, f2, f3⟩ := mapClo_CO hm hg cs (fun r row hr => h0 r row (e1 r row hr)) k3 (fun r row hr => d2 r row (e1 r row hr)) h2
        refine ⟨fun r row hr => e1 r row (f1 r row hr), by simp [f0], F1.or F2, ?_, ?_⟩
        · simp only [CO]
          exact ⟨x, F1, F2, k1, e2, f2, gone_dis hm h0 e1 k4 d1 d2 e3 f3, FS.sub_or_left, FS.sub_or_right⟩
        · refine FS.or_sub (e3.trans (FS.or_sub (k5.trans FS.sub_or_left) ((gone_mono e1 f1).1.trans FS.sub_or_right))) (f3.trans (FS.or_sub (k6.trans FS.sub_or_left) ((gone_mono e1 f1).2.trans FS.sub_or_right)))
      · cases h
    · cases h
theorem mapClo_LO (hm : Mem S K B rows0 used ρ Fp w) {g : Rows → C → Option (V × Rows)} (hg : CloOK S w pl Fp rows0 g) (hnd : ∀ c x, CR S w pl c x → CellR S w pl c x FS.none) : ∀ (cs : List C) {rows rows' : Rows} {vs : List Value} {ts : List V}, Subr rows rows0 → CRL S w pl cs vs → mapClo g rows cs = some (ts, rows') →
    Subr rows' rows ∧ ∃ F, LO S w ts vs F ∧ F.sub (gone rows rows' Fp)
  | [], rows, rows', vs, ts, h0, hr, h => by
    simp only [mapClo, Option.some.injEq, Prod.mk.injEq] at h
    obtain ⟨rfl, rfl⟩ := h
    simp only [CRL] at hr
    exact ⟨fun _ _ => id, FS.none, by simp only [LO]; exact hr, FS.none_sub⟩
  | c :: cs, rows, rows', vs, ts, h0, hr, h => by
    simp only [mapClo] at h
    split at h
    · rename_i t rows1 h1
      split at h
      · rename_i ts' rows2 h2
        simp only [Option.some.injEq, Prod.mk.injEq] at h
        obtain ⟨rfl, rfl⟩ := h
        simp only [CRL] at hr
        obtain ⟨x, xs, rfl, k2, k3⟩ := hr
        obtain ⟨e1, F1, e2, e3⟩ := hg rows c x FS.none t rows1 h0 (hnd c x k2) (fun _ _ _ => FS.none_dis) h1
        obtain ⟨f1, F2, f2, f3⟩ := mapClo_LO hm hg hnd cs (fun r row hr => h0 r row (e1 r row hr)) k3 h2
        refine ⟨fun r row hr => e1 r row (f1 r row hr), F1.or F2, ?_, ?_⟩
        · simp only [LO]
          exact ⟨x, xs, F1, F2, rfl, e2, f2, gone_dis hm h0 e1 FS.none_dis (fun _ _ _ => FS.none_dis) (fun _ _ _ => FS.none_dis) e3 (f3.trans FS.sub_or_right), FS.sub_or_left, FS.sub_or_right⟩
        · refine FS.or_sub (e3.trans (FS.or_sub FS.none_sub (gone_mono e1 f1).1)) (f3.trans (gone_mono e1 f1).2)
      · cases h
    · cases h
theorem CR_CellR {c : C} {x : Value} (h : CR S w pl c x) : CellR S w pl c x FS.none := by
  cases c with
  | own t => simp only [CR] at h
  | _ => exact h
theorem chunk_sub {b o n b' o' n' : Nat} (hb : b = b') (h1 : o' ≤ o) (h2 : o + n ≤ o' + n') : (chunk b o n).sub (chunk b' o' n') := fun x y ⟨e1, e2, e3⟩ => ⟨by omega, by omega, by omega⟩
theorem clo_OK (hm : Mem S K B rows0 used ρ Fp w) : ∀ n, CloOK S w (plOf rows0 ρ) Fp rows0 (clo n)
  | 0 => fun rows c x G t rows' _ _ _ h => by simp [clo] at h
  | n + 1 => by
    intro rows c x G t rows' h0 hc hd h
    have ih := clo_OK hm n
    simp only [clo] at h
    split at h
    · simp only [Option.some.injEq, Prod.mk.injEq] at h
      obtain ⟨rfl, rfl⟩ := h
      exact ⟨fun _ _ => id, FS.none, by simpa only [VO, CellR, CR, VI] using hc, FS.none_sub⟩
    · rename_i t' _
      simp only [Option.some.injEq, Prod.mk.injEq] at h
      obtain ⟨rfl, rfl⟩ := h
      exact ⟨fun _ _ => id, FS.none, by simpa only [VO, CellR, CR] using hc, FS.none_sub⟩
    · simp only [Option.some.injEq, Prod.mk.injEq] at h
      obtain ⟨rfl, rfl⟩ := h
      exact ⟨fun _ _ => id, G, hc, FS.sub_or_left⟩
    · rename_i r off E len
      split at h
      · rename_i row hr
        split at h
        · rename_i hl
          simp only [Option.map_eq_some_iff] at h
          obtain ⟨⟨ts, rows1⟩, h1, h2⟩ := h
          simp only [Prod.mk.injEq] at h2
          obtain ⟨rfl, rfl⟩ := h2
          simp only [CellR, CR] at hc
          obtain ⟨ad, cap, e1, e2, e3⟩ := hc
          obtain ⟨Gr, k1, k2, k3, k4, k5, k6⟩ := hm.row r row (h0 r row hr)
          have hdl : ∀ j row', upd rows r none j = some row' → Gr.dis (Fp j) := fun j row' hj => by
            have hne : j ≠ r := by rintro rfl; simp at hj
            rw [upd_ne hne] at hj
            exact (hm.sep r j row row' (Ne.symm hne) (h0 r row hr) (h0 j row' hj)).mono k4 FS.sub.refl
          obtain ⟨f1, f0, F, f2, f3⟩ := mapClo_CO hm ih _ (fun j row' hj => h0 j row' (Subr.del j row' hj)) (RowR_mid k1 off (len * E) hl) hdl h1
          have hsub : Subr rows1 rows := fun j row' hj => Subr.del j row' (f1 j row' hj)
          have hgr : (Fp r).sub (gone rows rows1 Fp) := fun b o hf => ⟨r, row, hr, by
            cases hq : rows1 r with
            | none => rfl
            | some q => have := f1 r q hq; simp at this, hf⟩
          have hgd : (gone (upd rows r none) rows1 Fp).sub (gone rows rows1 Fp) := (gone_mono (r1 := rows) (r2 := upd rows r none) (r3 := rows1) Subr.del f1).2
          refine ⟨hsub, gone rows rows1 Fp, ?_, FS.sub_or_right⟩
          simp only [VO]
          refine ⟨ad, cap, e1, e2, ?_⟩
          rcases e3 _ (plOf_some (h0 r row hr)) with e4 | ⟨e4, e5⟩
          · left
            refine ⟨e4, List.length_eq_zero_iff.1 ?_⟩
            rw [f0, List.length_take]
            have : len = 0 := by omega
            simp [this]
          · right
            have hle : len * E ≤ cap * E := Nat.mul_le_mul_right _ e2
            have htl : ts.length = len * E := by rw [f0, List.length_take, List.length_drop]; omega
            refine ⟨_, _, F, e4, by omega, f2, ?_, ?_, ?_, ?_⟩
            · exact (chunk_sub (b' := (ρ r).b) (o' := (ρ r).o) (n' := (ρ r).ext) rfl (by omega) (by omega)).trans (k3.trans hgr)
            · exact f3.trans (FS.or_sub (k4.trans hgr) hgd)
            · intro b o h1 h2
              have hin : (ρ r).fs b o := chunk_sub (b' := (ρ r).b) (o' := (ρ r).o) (n' := (ρ r).ext) rfl (by omega) (by omega) b o h1
              rcases f3 b o h2 with h2 | ⟨j, row', g1, g2, g3⟩
              · exact k5 b o hin h2
              · have hne : j ≠ r := by rintro rfl; simp at g1
                replace g1 := Subr.del (r := r) j row' g1
                exact hm.sep r j row row' (Ne.symm hne) (h0 r row hr) (h0 j row' g1) b o (k3 b o hin) g3
            · intro j hj
              have := k6 (off + j) (by omega)
              rwa [show (ρ r).o + (off + j) = (ρ r).o + off + j by omega] at this
        · cases h
      · cases h
    · rename_i r off
      split at h
      · rename_i row hr
        split at h
        · rename_i hoff
          subst hoff
          simp only [Option.map_eq_some_iff] at h
          obtain ⟨⟨ts, rows1⟩, h1, h2⟩ := h
          simp only [Prod.mk.injEq] at h2
          obtain ⟨rfl, rfl⟩ := h2
          simp only [CellR, CR] at hc
          obtain ⟨ad, e1, e3⟩ := hc
          obtain ⟨Gr, k1, k2, k3, k4, k5, k6⟩ := hm.row r row (h0 r row hr)
          have hdl : ∀ j row', upd rows r none j = some row' → Gr.dis (Fp j) := fun j row' hj => by
            have hne : j ≠ r := by rintro rfl; simp at hj
            rw [upd_ne hne] at hj
            exact (hm.sep r j row row' (Ne.symm hne) (h0 r row hr) (h0 j row' hj)).mono k4 FS.sub.refl
          obtain ⟨f1, f0, F, f2, f3⟩ := mapClo_CO hm ih _ (fun j row' hj => h0 j row' (Subr.del j row' hj)) k1 hdl h1
          have hsub : Subr rows1 rows := fun j row' hj => Subr.del j row' (f1 j row' hj)
          have hgr : (Fp r).sub (gone rows rows1 Fp) := fun b o hf => ⟨r, row, hr, by
            cases hq : rows1 r with
            | none => rfl
            | some q => have := f1 r q hq; simp at this, hf⟩
          have hgd : (gone (upd rows r none) rows1 Fp).sub (gone rows rows1 Fp) := (gone_mono (r1 := rows) (r2 := upd rows r none) (r3 := rows1) Subr.del f1).2
          refine ⟨hsub, gone rows rows1 Fp, ?_, FS.sub_or_right⟩
          simp only [VO]
          have e4 := e3 _ (plOf_some (h0 r row hr))
          refine ⟨(ρ r).b, (ρ r).o, F, by rw [e1, e4]; simp, f2, ?_, ?_, ?_, ?_⟩
          · exact (chunk_sub (b' := (ρ r).b) (o' := (ρ r).o) (n' := (ρ r).ext) rfl (by omega) (by omega)).trans (k3.trans hgr)
          · exact f3.trans (FS.or_sub (k4.trans hgr) hgd)
          · intro b o h1 h2
            have hin : (ρ r).fs b o := chunk_sub (b' := (ρ r).b) (o' := (ρ r).o) (n' := (ρ r).ext) rfl (by omega) (by omega) b o h1
            rcases f3 b o h2 with h2 | ⟨j, row', g1, g2, g3⟩
            · exact k5 b o hin h2
            · have hne : j ≠ r := by rintro rfl; simp at g1
              replace g1 := Subr.del (r := r) j row' g1
              exact hm.sep r j row row' (Ne.symm hne) (h0 r row hr) (h0 j row' g1) b o (k3 b o hin) g3
          · intro j hj
            exact k6 j (by omega)
        · cases h
      · cases h
    · rename_i cs
      simp only [Option.map_eq_some_iff] at h
      obtain ⟨⟨ts, rows1⟩, h1, h2⟩ := h
      simp only [Prod.mk.injEq] at h2
      obtain ⟨rfl, rfl⟩ := h2
      simp only [CellR, CR] at hc
      obtain ⟨vs, e1, e2⟩ := hc
      obtain ⟨f1, F, f2, f3⟩ := mapClo_LO hm ih (fun _ _ => CR_CellR) cs h0 e2 h1
      exact ⟨f1, F, by simp only [VO]; exact ⟨vs, e1, f2⟩, f3.trans FS.sub_or_right⟩
    · rename_i cs
      simp only [Option.map_eq_some_iff] at h
      obtain ⟨⟨ts, rows1⟩, h1, h2⟩ := h
      simp only [Prod.mk.injEq] at h2
      obtain ⟨rfl, rfl⟩ := h2
      simp only [CellR, CR] at hc
      obtain ⟨vs, e1, e2⟩ := hc
      obtain ⟨f1, F, f2, f3⟩ := mapClo_LO hm ih (fun _ _ => CR_CellR) cs h0 e2 h1
      exact ⟨f1, F, by simp only [VO]; exact ⟨vs, e1, f2⟩, f3.trans FS.sub_or_right⟩
    · rename_i f cs
      simp only [Option.map_eq_some_iff] at h
      obtain ⟨⟨ts, rows1⟩, h1, h2⟩ := h
      simp only [Prod.mk.injEq] at h2
      obtain ⟨rfl, rfl⟩ := h2
      simp only [CellR, CR] at hc
      obtain ⟨vs, e1, e2⟩ := hc
      obtain ⟨f1, F, f2, f3⟩ := mapClo_LO hm ih (fun _ _ => CR_CellR) cs h0 e2 h1
      exact ⟨f1, F, by simp only [VO]; exact ⟨vs, e1, f2⟩, f3.trans FS.sub_or_right⟩
    · cases h
end
end Go.Eng
namespace Go.Eng
open Go.RowKit (Below)
section
variable {P : Program} {X : Ctx} {o : Oper} {st st' : St} {a : Act} {w w' : World} {S S' K : FS} {B : Nat} {pl : Nat → Option Pl} {used : Nat → Bool} {rows0 : Rows} {ρ : Nat → Pl} {Fp : Nat → FS}
def SnapOK (S S' : FS) (w : World) (pl : Nat → Option Pl) (g : C → Option V) : Prop := ∀ c x G t, CellR S w pl c x G → G.sub S' → g c = some t → VI S' w t x
theorem mapSnap_CI {g : C → Option V} (hg : SnapOK S S' w pl g) : ∀ (cs : List C) {b o : Nat} {G : FS} {ts : List V}, RowR S w pl cs b o G → G.sub S' → (chunk b o cs.length).sub S' → mapSnap g cs = some ts → CI S' w ts b o ∧ ts.length = cs.length
  | [], b, o, G, ts, _, _, _, h => by
    simp only [mapSnap, Option.some.injEq] at h
    subst h
    exact ⟨by simp only [CI], rfl⟩
  | c :: cs, b, o, G, ts, hr, hs, hc, h => by
    simp only [mapSnap] at h
    split at h
    · rename_i t ts' h1 h2
      simp only [Option.some.injEq] at h
      subst h
      simp only [RowR] at hr
      obtain ⟨x, G1, G2, k1, k2, k3, k4, k5, k6⟩ := hr
      have ih := mapSnap_CI hg cs k3 (k6.trans hs) (fun b' o' ⟨h1, h2, h3⟩ => hc _ _ ⟨h1, by omega, by simp only [List.length_cons]; omega⟩) h2
      refine ⟨?_, by simp [ih.2]⟩
      simp only [CI]
      exact ⟨⟨hc _ _ ⟨rfl, by omega, by simp⟩, x, k1, hg c x G1 t k2 (k5.trans hs) h1⟩, ih.1⟩
    · cases h
theorem mapSnap_LI {g : C → Option V} (hg : SnapOK S S' w pl g) : ∀ (cs : List C) {vs : List Value} {ts : List V}, CRL S w pl cs vs → mapSnap g cs = some ts → LI S' w ts vs
  | [], vs, ts, hr, h => by
    simp only [mapSnap, Option.some.injEq] at h
    subst h
    simp only [CRL] at hr
    simp only [LI]
    exact hr
  | c :: cs, vs, ts, hr, h => by
    simp only [mapSnap] at h
    split at h
    · rename_i t ts' h1 h2
      simp only [Option.some.injEq] at h
      subst h
      simp only [CRL] at hr
      obtain ⟨x, xs, rfl, k2, k3⟩ := hr
      simp only [LI]
      exact ⟨x, xs, rfl, hg c x FS.none t (CR_CellR k2) FS.none_sub h1, mapSnap_LI hg cs k3 h2⟩
    · cases h
theorem snap_OK (hm : Mem S K B rows0 used ρ Fp w) {rows : Rows} (h0 : Subr rows rows0) (hS : S.sub S') (hF : ∀ r row, rows r = some row → (Fp r).sub S') : ∀ n, SnapOK S S' w (plOf rows0 ρ) (snap rows n)
  | 0 => fun c x G t _ _ h => by simp [snap] at h
  | n + 1 => by
    intro c x G t hc hg h
    have ih := snap_OK hm h0 hS hF n
    simp only [snap] at h
    split at h
    · simp only [Option.some.injEq] at h
      subst h
      simp only [CellR, CR] at hc
      exact VI_mono hS Same.refl _ hc
    · simp only [Option.some.injEq] at h
      subst h
      exact VO_VI _ hc (FS.or_sub hS hg)
    · rename_i r off E len
      split at h
      · rename_i row hr
        split at h
        · rename_i hl
          simp only [Option.map_eq_some_iff] at h
          obtain ⟨ts, h1, rfl⟩ := h
          simp only [CellR, CR] at hc
          obtain ⟨ad, cap, e1, e2, e3⟩ := hc
          obtain ⟨Gr, k1, k2, k3, k4, k5, k6⟩ := hm.row r row (h0 r row hr)
          have hFr := hF r row hr
          obtain ⟨f1, f2⟩ := mapSnap_CI ih _ (RowR_mid k1 off (len * E) hl) (k4.trans hFr) ((chunk_sub (b' := (ρ r).b) (o' := (ρ r).o) (n' := (ρ r).ext) rfl (by omega) (by rw [List.length_take, List.length_drop]; omega)).trans (k3.trans hFr)) h1
          simp only [VI]
          refine ⟨ad, cap, e1, e2, ?_⟩
          rcases e3 _ (plOf_some (h0 r row hr)) with e4 | ⟨e4, e5⟩
          · left
            refine List.length_eq_zero_iff.1 ?_
            rw [f2, List.length_take]
            have : len = 0 := by omega
            simp [this]
          · exact .inr ⟨_, _, e4, f1⟩
        · cases h
      · cases h
    · rename_i r off
      split at h
      · rename_i row hr
        simp only [Option.map_eq_some_iff] at h
        obtain ⟨ts, h1, rfl⟩ := h
        simp only [CellR, CR] at hc
        obtain ⟨ad, e1, e3⟩ := hc
        obtain ⟨Gr, k1, k2, k3, k4, k5, k6⟩ := hm.row r row (h0 r row hr)
        have hFr := hF r row hr
        simp only [VI]
        have e4 := e3 _ (plOf_some (h0 r row hr))
        by_cases hoff : off ≤ row.cells.length
        · have hmid := RowR_mid k1 off (row.cells.length - off) (by omega)
          rw [List.take_of_length_le (by rw [List.length_drop]; exact Nat.le_refl _)] at hmid
          obtain ⟨f1, f2⟩ := mapSnap_CI ih _ hmid (k4.trans hFr) ((chunk_sub (b' := (ρ r).b) (o' := (ρ r).o) (n' := (ρ r).ext) rfl (by omega) (by rw [List.length_drop]; omega)).trans (k3.trans hFr)) h1
          exact ⟨_, _, by rw [e1, e4], f1⟩
        · rw [List.drop_eq_nil_of_le (by omega)] at h1
          simp only [mapSnap, Option.some.injEq] at h1
          subst h1
          exact ⟨_, _, by rw [e1, e4], by simp only [CI]⟩
      · cases h
    · rename_i cs
      simp only [Option.map_eq_some_iff] at h
      obtain ⟨ts, h1, rfl⟩ := h
      simp only [CellR, CR] at hc
      obtain ⟨vs, e1, e2⟩ := hc
      simp only [VI]
      exact ⟨vs, e1, mapSnap_LI ih cs e2 h1⟩
    · rename_i cs
      simp only [Option.map_eq_some_iff] at h
      obtain ⟨ts, h1, rfl⟩ := h
      simp only [CellR, CR] at hc
      obtain ⟨vs, e1, e2⟩ := hc
      simp only [VI]
      exact ⟨vs, e1, mapSnap_LI ih cs e2 h1⟩
    · rename_i f cs
      simp only [Option.map_eq_some_iff] at h
      obtain ⟨ts, h1, rfl⟩ := h
      simp only [CellR, CR] at hc
      obtain ⟨vs, e1, e2⟩ := hc
      simp only [VI]
      exact ⟨vs, e1, mapSnap_LI ih cs e2 h1⟩
    · cases h
/-! A tree that comes in: its rows. -/
/-- What is read alone: a struct's value is told part by part. -/
def imC : V → C
  | .ag cs => .ag (cs.map C.v)
  | t => .v t
theorem LI_CRL {S : FS} {w : World} {pl : Nat → Option Pl} : ∀ {cs : List V} {vs : List Value}, LI S w cs vs → CRL S w pl (cs.map C.v) vs
  | [], _, h => by simpa only [List.map_nil, CRL, LI] using h
  | t :: ts, _, h => by
    simp only [LI] at h
    obtain ⟨x, xs, h1, h2, h3⟩ := h
    simp only [List.map_cons, CRL, CR]
    exact ⟨x, xs, h1, h2, LI_CRL h3⟩
theorem okL_v {u : Nat → Bool} : ∀ (cs : List V), C.okL u (cs.map C.v)
  | [] => by simp only [List.map_nil, C.okL]
  | t :: ts => by simp only [List.map_cons, C.okL, C.ok, true_and]; exact okL_v ts
theorem imC_R {S : FS} {w : World} {pl : Nat → Option Pl} {u : Nat → Bool} {t : V} {x : Value} (h : VI S w t x) : CR S w pl (imC t) x ∧ C.ok u (imC t) := by
  cases t with
  | ag cs =>
    simp only [imC, VI, CR, C.ok] at h ⊢
    obtain ⟨vs, h1, h2⟩ := h
    exact ⟨⟨vs, h1, LI_CRL h2⟩, okL_v cs⟩
  | _ => simp only [imC, CR, C.ok, and_true]; exact h
mutual
def mat : V → Nat → C × List (List C)
  | .sc v, _ => (.v (.sc v), [])
  | .im t, _ => (imC t, [])
  | .sl E len cs, n => (.sr n 0 E len, [cs.map .own])
  | .bx cs, n => (.pr n 0, [cs.map .own])
  | .ag cs, n => (.ag (matL cs n).1, (matL cs n).2)
  | .tp cs, n => (.tp (matL cs n).1, (matL cs n).2)
  | .fn f cs, n => (.fn f (matL cs n).1, (matL cs n).2)
def matL : List V → Nat → List C × List (List C)
  | [], _ => ([], [])
  | t :: ts, n => ((mat t n).1 :: (matL ts (n + (mat t n).2.length)).1, (mat t n).2 ++ (matL ts (n + (mat t n).2.length)).2)
end
def addRows (rows : Rows) : Nat → List (List C) → Rows
  | _, [] => rows
  | n, c :: cs => addRows (upd rows n (some ⟨c⟩)) (n + 1) cs
def addUsed (used : Nat → Bool) : Nat → List (List C) → (Nat → Bool)
  | _, [] => used
  | n, _ :: cs => addUsed (upd used n true) (n + 1) cs
theorem addRows_append {rows : Rows} : ∀ (cs ds : List (List C)) (n : Nat) (rows : Rows), addRows rows n (cs ++ ds) = addRows (addRows rows n cs) (n + cs.length) ds
  | [], ds, n, rows => rfl
  | c :: cs, ds, n, rows => by
    simp only [List.cons_append, addRows]
    rw [addRows_append (rows := rows) cs ds (n + 1), List.length_cons, show n + 1 + cs.length = n + (cs.length + 1) by omega]
theorem addUsed_append : ∀ (cs ds : List (List C)) (n : Nat) (used : Nat → Bool), addUsed used n (cs ++ ds) = addUsed (addUsed used n cs) (n + cs.length) ds
  | [], ds, n, used => rfl
  | c :: cs, ds, n, used => by
    simp only [List.cons_append, addUsed]
    rw [addUsed_append cs ds (n + 1), List.length_cons, show n + 1 + cs.length = n + (cs.length + 1) by omega]
theorem addUsed_off : ∀ (cs : List (List C)) (n : Nat) (used : Nat → Bool) (j : Nat), (j < n ∨ n + cs.length ≤ j) → addUsed used n cs j = used j
  | [], _, _, _, _ => rfl
  | c :: cs, n, used, j, h => by
    simp only [addUsed]
    rw [addUsed_off cs (n + 1) _ j (by rw [List.length_cons] at h; omega), upd_ne (by rw [List.length_cons] at h; omega)]
theorem addUsed_mono : ∀ (cs : List (List C)) (n : Nat) (used : Nat → Bool) (j : Nat), used j = true → addUsed used n cs j = true
  | [], _, _, _, h => h
  | c :: cs, n, used, j, h => addUsed_mono cs (n + 1) _ j (used_upd j h)
theorem addUsed_on : ∀ (cs : List (List C)) (n : Nat) (used : Nat → Bool) (j : Nat), n ≤ j → j < n + cs.length → addUsed used n cs j = true
  | [], n, _, j, h1, h2 => by simp at h2; omega
  | c :: cs, n, used, j, h1, h2 => by
    simp only [addUsed]
    by_cases e : j = n
    · subst e; exact addUsed_mono cs _ _ _ (upd_self _ _ _)
    · exact addUsed_on cs (n + 1) _ j (by omega) (by rw [List.length_cons] at h2; omega)
structure MatR (S K : FS) (B : Nat) (w : World) (F : FS) (rows : Rows) (used : Nat → Bool) (ρ : Nat → Pl) (Fp : Nat → FS) (rows' : Rows) (used' : Nat → Bool) (ρ' : Nat → Pl) (Fp' : Nat → FS) : Prop where
  mem : Mem S K B rows' used' ρ' Fp' w
  mono : ∀ r p, used r = true → plOf rows' ρ' r = some p → plOf rows ρ r = some p
  usd : ∀ r, used r = true → used' r = true
  fp : ∀ r row, rows' r = some row → (∃ row0, rows r = some row0 ∧ Fp' r = Fp r) ∨ (Fp' r).sub F
theorem okL_own (cs : List V) : C.okL used (cs.map C.own) := by
  induction cs with
  | nil => simp only [List.map_nil, C.okL]
  | cons t ts ih => simp only [List.map_cons, C.okL, C.ok, true_and]; exact ih
mutual
theorem mat_R : ∀ (t : V) (n : Nat) {rows : Rows} {used : Nat → Bool} {ρ : Nat → Pl} {Fp : Nat → FS} {F : FS} {x : Value}, Mem S K B rows used ρ Fp w → VO S w t x F → (∀ r row, rows r = some row → F.dis (Fp r)) → F.dis K → (∀ b o, F b o → B ≤ b ∧ b < w.heap.size) → (∀ j, n ≤ j → j < n + (mat t n).2.length → used j = false) →
    ∃ ρ' Fp', MatR S K B w F rows used ρ Fp (addRows rows n (mat t n).2) (addUsed used n (mat t n).2) ρ' Fp' ∧ CR S w (plOf (addRows rows n (mat t n).2) ρ') (mat t n).1 x ∧ C.ok (addUsed used n (mat t n).2) (mat t n).1
  | .sc v, n, rows, used, ρ, Fp, F, x, hm, hv, _, _, _, _ => by
    simp only [VO] at hv
    refine ⟨ρ, Fp, ⟨hm, fun _ _ _ => id, fun _ => id, fun r row hr => .inl ⟨row, hr, rfl⟩⟩, ?_, ?_⟩
    · simp only [mat, addRows, CR, VI]; exact hv
    · simp only [mat, C.ok]
  | .im t, n, rows, used, ρ, Fp, F, x, hm, hv, _, _, _, _ => by
    simp only [VO] at hv
    refine ⟨ρ, Fp, ⟨hm, fun _ _ _ => id, fun _ => id, fun r row hr => .inl ⟨row, hr, rfl⟩⟩, ?_, ?_⟩
    · simp only [mat, addRows]; exact (imC_R (u := used) hv).1
    · simp only [mat]; exact (imC_R (pl := fun _ => none) hv).2
  | .sl E len cs, n, rows, used, ρ, Fp, F, x, hm, hv, hs, hK, hB, hu => by
    simp only [VO] at hv
    obtain ⟨ad, cap, e1, e2, e3⟩ := hv
    have hun : used n = false := hu n (Nat.le_refl _) (by simp [mat])
    simp only [mat, addRows, addUsed]
    rcases e3 with ⟨e4, e5⟩ | ⟨b, o, G, e4, e5, e6, e7, e8, e9, e10⟩
    · subst e5
      have := hm.add (r := n) (p := ⟨0, 0, 0⟩) (F := FS.none) (G := FS.none) (row := ⟨List.map C.own []⟩) hun (by simp only [List.map_nil, RowR]) (by simp only [List.map_nil, C.okL]) (by simp) (fun b o ⟨_, h2, h3⟩ => by simp at h3) FS.none_sub FS.dis_none (fun j hj => by simp at hj) (fun _ _ _ => FS.none_dis) FS.none_dis (fun _ _ hf => hf.elim)
      refine ⟨_, _, ⟨this, plOf_new hun, used_upd, fun r row hr => ?_⟩, ?_, by simp only [C.ok, upd_self]⟩
      · by_cases e : r = n
        · subst e; right; rw [upd_self]; exact FS.none_sub
        · rw [upd_ne e] at hr; exact .inl ⟨row, hr, by rw [upd_ne e]⟩
      · simp only [CR]
        exact ⟨ad, cap, e1, e2, fun _ _ => .inl e4⟩
    · have := hm.add (r := n) (p := ⟨b, o, cap * E⟩) (F := F) (G := G) (row := ⟨cs.map C.own⟩) hun (CO_RowR cs e6) (okL_own cs) (by simpa using e5) e7 e8 e9 e10 hs hK hB
      refine ⟨_, _, ⟨this, plOf_new hun, used_upd, fun r row hr => ?_⟩, ?_, by simp only [C.ok, upd_self]⟩
      · by_cases e : r = n
        · subst e; right; rw [upd_self]; exact FS.sub.refl
        · rw [upd_ne e] at hr; exact .inl ⟨row, hr, by rw [upd_ne e]⟩
      · simp only [CR]
        refine ⟨ad, cap, e1, e2, fun p hp => .inr ?_⟩
        simp only [plOf, upd_self, Option.some.injEq] at hp
        subst hp
        exact ⟨by rw [e4]; simp, by simp⟩
  | .bx cs, n, rows, used, ρ, Fp, F, x, hm, hv, hs, hK, hB, hu => by
    simp only [VO] at hv
    obtain ⟨b, o, G, e4, e6, e7, e8, e9, e10⟩ := hv
    have hun : used n = false := hu n (Nat.le_refl _) (by simp [mat])
    simp only [mat, addRows, addUsed]
    have := hm.add (r := n) (p := ⟨b, o, cs.length⟩) (F := F) (G := G) (row := ⟨cs.map C.own⟩) hun (CO_RowR cs e6) (okL_own cs) (by simp) e7 e8 e9 e10 hs hK hB
    refine ⟨_, _, ⟨this, plOf_new hun, used_upd, fun r row hr => ?_⟩, ?_, by simp only [C.ok, upd_self]⟩
    · by_cases e : r = n
      · subst e; right; rw [upd_self]; exact FS.sub.refl
      · rw [upd_ne e] at hr; exact .inl ⟨row, hr, by rw [upd_ne e]⟩
    · simp only [CR]
      refine ⟨_, e4, fun p hp => ?_⟩
      simp only [plOf, upd_self, Option.some.injEq] at hp
      subst hp
      simp
  | .ag cs, n, rows, used, ρ, Fp, F, x, hm, hv, hs, hK, hB, hu => by
    simp only [VO] at hv
    obtain ⟨vs, e1, e2⟩ := hv
    simp only [mat] at hu ⊢
    obtain ⟨ρ', Fp', k1, k2, k3⟩ := matL_R cs n hm e2 hs hK hB hu
    refine ⟨ρ', Fp', k1, ?_, by simp only [C.ok]; exact k3⟩
    simp only [CR]
    exact ⟨vs, e1, k2⟩
  | .tp cs, n, rows, used, ρ, Fp, F, x, hm, hv, hs, hK, hB, hu => by
    simp only [VO] at hv
    obtain ⟨vs, e1, e2⟩ := hv
    simp only [mat] at hu ⊢
    obtain ⟨ρ', Fp', k1, k2, k3⟩ := matL_R cs n hm e2 hs hK hB hu
    refine ⟨ρ', Fp', k1, ?_, by simp only [C.ok]; exact k3⟩
    simp only [CR]
    exact ⟨vs, e1, k2⟩
  | .fn f cs, n, rows, used, ρ, Fp, F, x, hm, hv, hs, hK, hB, hu => by
    simp only [VO] at hv
    obtain ⟨vs, e1, e2⟩ := hv
    simp only [mat] at hu ⊢
    obtain ⟨ρ', Fp', k1, k2, k3⟩ := matL_R cs n hm e2 hs hK hB hu
    refine ⟨ρ', Fp', k1, ?_, by simp only [C.ok]; exact k3⟩
    simp only [CR]
    exact ⟨vs, e1, k2⟩
theorem matL_R : ∀ (cs : List V) (n : Nat) {rows : Rows} {used : Nat → Bool} {ρ : Nat → Pl} {Fp : Nat → FS} {F : FS} {vs : List Value}, Mem S K B rows used ρ Fp w → LO S w cs vs F → (∀ r row, rows r = some row → F.dis (Fp r)) → F.dis K → (∀ b o, F b o → B ≤ b ∧ b < w.heap.size) → (∀ j, n ≤ j → j < n + (matL cs n).2.length → used j = false) →
    ∃ ρ' Fp', MatR S K B w F rows used ρ Fp (addRows rows n (matL cs n).2) (addUsed used n (matL cs n).2) ρ' Fp' ∧ CRL S w (plOf (addRows rows n (matL cs n).2) ρ') (matL cs n).1 vs ∧ C.okL (addUsed used n (matL cs n).2) (matL cs n).1
  | [], n, rows, used, ρ, Fp, F, vs, hm, hv, _, _, _, _ => by
    simp only [LO] at hv
    refine ⟨ρ, Fp, ⟨hm, fun _ _ _ => id, fun _ => id, fun r row hr => .inl ⟨row, hr, rfl⟩⟩, ?_, ?_⟩
    · simp only [matL, addRows, CRL]; exact hv
    · simp only [matL, C.okL]
  | t :: ts, n, rows, used, ρ, Fp, F, vs, hm, hv, hs, hK, hB, hu => by
    simp only [LO] at hv
    obtain ⟨x, xs, F1, F2, rfl, h2, h3, h4, h5, h6⟩ := hv
    simp only [matL, List.length_append] at hu
    obtain ⟨ρ1, Fp1, k1, k2, k3⟩ := mat_R t n hm h2 (fun r row hr => (hs r row hr).mono h5 FS.sub.refl) (hK.mono h5 FS.sub.refl) (fun b o hf => hB b o (h5 b o hf)) (fun j h7 h8 => hu j h7 (by omega))
    have hs2 : ∀ r row, addRows rows n (mat t n).2 r = some row → F2.dis (Fp1 r) := fun r row hr => by
      rcases k1.fp r row hr with ⟨row0, e1, e2⟩ | e
      · rw [e2]; exact (hs r row0 e1).mono h6 FS.sub.refl
      · exact h4.symm.mono FS.sub.refl e
    obtain ⟨ρ2, Fp2, m1, m2, m3⟩ := matL_R ts (n + (mat t n).2.length) k1.mem h3 hs2 (hK.mono h6 FS.sub.refl) (fun b o hf => hB b o (h6 b o hf)) (fun j h7 h8 => by rw [addUsed_off _ _ _ _ (.inr h7)]; exact hu j (by omega) (by omega))
    simp only [matL]
    rw [addRows_append (rows := rows), addUsed_append]
    refine ⟨ρ2, Fp2, ⟨m1.mem, fun r p hu hp => k1.mono r p hu (m1.mono r p (k1.usd r hu) hp), fun r hu => m1.usd r (k1.usd r hu), fun r row hr => ?_⟩, ?_, ?_⟩
    · rcases m1.fp r row hr with ⟨row0, e1, e2⟩ | e
      · rcases k1.fp r row0 e1 with ⟨row1, f1, f2⟩ | f
        · exact .inl ⟨row1, f1, e2.trans f2⟩
        · right; rw [e2]; exact f.trans h5
      · exact .inr (e.trans h6)
    · simp only [CRL]
      exact ⟨x, xs, rfl, CR_mono FS.sub.refl Same.refl _ m1.mono k3 k2, m2⟩
    · simp only [C.okL]
      exact ⟨ok_mono m1.usd _ k3, m3⟩
end
end
end Go.Eng
namespace Go.Eng
open Go.RowKit (Below)
/-- An argument: read alone; read and written (its memory is the caller's own); handed over. -/
inductive Arg where
  | ro (t : V)
  | io (t : V)
  | own (t : V)
def Arg.tree : Arg → V
  | .ro t => .im t
  | .io t => t
  | .own t => t
def ioVals : List Arg → List Value → List Value
  | .io _ :: as, x :: xs => x :: ioVals as xs
  | _ :: as, _ :: xs => ioVals as xs
  | _, _ => []
def ioCs : List Arg → List C → List C
  | .io _ :: as, x :: xs => x :: ioCs as xs
  | _ :: as, _ :: xs => ioCs as xs
  | _, _ => []
/-- CALLED WITH ARGUMENTS THAT READ SO the function returns what res tells, in memory of its own; what it may write reads as outs tells; all else is as it was. -/
def Contract (P : Program) (f : FuncId) (args : List Arg) (outs : List V) (res : V) : Prop :=
  ∀ (S K : FS) (B : Nat) (w : World) (vs : Array Value) (F : FS), S.sub K → (∀ b o, K b o → b < w.heap.size) → B ≤ w.heap.size → LO S w (args.map Arg.tree) vs.toList F → F.dis K → (∀ b o, F b o → B ≤ b ∧ b < w.heap.size) →
    Calls P f vs w fun e w' => ∃ x F', e = .returned x ∧ LO S w' (outs ++ [res]) (ioVals args vs.toList ++ [x]) F' ∧ F'.dis K ∧ (∀ b o, F' b o → B ≤ b ∧ b < w'.heap.size) ∧ Below B w w' ∧ Same K w w'
def entry (args : List Arg) (ntmps : Nat) : St :=
  { N := max args.length ntmps, args := (matL (args.map Arg.tree) 0).1, env := fun k => (matL (args.map Arg.tree) 0).1[k]?, rows := addRows (fun _ => none) 0 (matL (args.map Arg.tree) 0).2, used := addUsed (fun _ => false) 0 (matL (args.map Arg.tree) 0).2 }
def resOne (P : Program) (st : St) : ResultVar → Option C
  | .tmp t => st.env t
  | .cell a t => match st.env a with
    | some (.pr r off) => match st.rows r with
      | some row => match tyAgg P t with
        | some false => (row.cells[off]?).bind readC
        | some true => match tySize P t with
          | some n => if off + n ≤ row.cells.length then (readL ((row.cells.drop off).take n)).map .ag else none
          | none => none
        | none => none
      | none => none
    | _ => none
def resAll (P : Program) (st : St) : List ResultVar → Option (List C)
  | [] => some []
  | r :: rs => match resOne P st r, resAll P st rs with
    | some c, some cs => some (c :: cs)
    | _, _ => none
def resC (P : Program) (st : St) (rs : List ResultVar) : Option C := match resAll P st rs with
  | some [c] => some c
  | some cs => some (.tp cs)
  | none => none
def resSem (tmps : Array Value) : ResultVar → Sem Value
  | .tmp t => pure (tmps.getD t undef)
  | .cell a t => do loadVar t (← asAddr (tmps.getD a undef))
theorem results_eq (fn : Func) (tmps : Array Value) : results fn tmps = (do
    let vs ← fn.results.mapM (resSem tmps)
    pure (if h : vs.size = 1 then vs[0] else .tuple vs)) := by
  unfold results
  congr 1
/-- At the end: what is handed back. -/
def Exits (P : Program) (fn : Func) (args : List Arg) (outs : List V) (res : V) (st : St) : Prop := ∃ cr n rows', resC P st fn.results.toList = some cr ∧ mapClo (clo n) st.rows (ioCs args st.args ++ [cr]) = some (outs ++ [res], rows')
section
variable {P : Program} {X : Ctx} {o : Oper} {st st' : St} {a : Act} {w w' : World} {S S' K : FS} {B : Nat} {pl : Nat → Option Pl} {used : Nat → Bool} {rows0 : Rows} {ρ : Nat → Pl} {Fp : Nat → FS}
theorem LO_length : ∀ {ts : List V} {vs : List Value} {F : FS}, LO S w ts vs F → vs.length = ts.length
  | [], _, _, h => by simp only [LO] at h; subst h; rfl
  | t :: ts, _, _, h => by
    simp only [LO] at h
    obtain ⟨x, xs, F1, F2, rfl, _, h3, _⟩ := h
    simp [LO_length h3]
theorem matL_length : ∀ (cs : List V) (n : Nat), (matL cs n).1.length = cs.length
  | [], _ => rfl
  | t :: ts, n => by simp only [matL, List.length_cons, matL_length ts]
theorem Mem_empty : Mem S K B (fun _ => none) (fun _ => false) ρ Fp w := ⟨fun r row h => by simp at h, fun r r' row row' _ h => by simp at h, fun r row h => by simp at h, fun r row h => by simp at h, fun r row h => by simp at h⟩
theorem entry_R {args : List Arg} {vs : Array Value} {F : FS} {n : Nat} (hsub : S.sub K) (hk : ∀ b o, K b o → b < w.heap.size) (hB : B ≤ w.heap.size) (h : LO S w (args.map Arg.tree) vs.toList F) (hF : F.dis K) (hl : ∀ b o, F b o → B ≤ b ∧ b < w.heap.size) :
    R ⟨S, K, B, w, vs.toList⟩ (entry args n) { tmps := vs ++ Array.replicate (n - vs.size) undef, defers := [] } w := by
  have hlen : vs.size = args.length := by have := LO_length h; simpa using this
  obtain ⟨ρ', Fp', k1, k2, k3⟩ := matL_R (S := S) (K := K) (B := B) (w := w) (ρ := fun _ => ⟨0, 0, 0⟩) (Fp := fun _ => FS.none) (args.map Arg.tree) 0 Mem_empty h (fun r row hr => by simp at hr) hF hl (fun _ _ _ => rfl)
  refine ⟨⟨ρ', Fp', k1.mem, ?_, k2, k3⟩, rfl, ?_, Below.refl _ _, Same.refl, hsub, hk, hB⟩
  · intro k c hkc
    obtain ⟨x, e1, e2⟩ := CRL_get k2 hkc
    refine ⟨x, ?_, e2, okL_get k3 hkc⟩
    have hkl : k < vs.size := by simpa using (List.getElem?_eq_some_iff.1 e1).1
    simp only [Array.getElem?_append_left hkl]
    simpa using e1
  · simp only [entry, Array.size_append, Array.size_replicate, hlen]
    omega
theorem resAll_R (hm : Mem S K B st.rows used ρ Fp w) {av : List Value} (he : Env S w (plOf st.rows ρ) used st av a) : ∀ {rs : List ResultVar} {cs : List C}, resAll P st rs = some cs → ∃ xs : List Value, (rs.mapM (resSem a.tmps)).run P w = .ok xs w ∧ CRL S w (plOf st.rows ρ) cs xs ∧ C.okL used cs
  | [], cs, h => by
    simp only [resAll, Option.some.injEq] at h
    subst h
    exact ⟨[], by simp, by simp only [CRL], by simp only [C.okL]⟩
  | r :: rs, cs, h => by
    simp only [resAll] at h
    split at h
    · rename_i c cs' h1 h2
      simp only [Option.some.injEq] at h
      subst h
      obtain ⟨xs, e1, e2, e3⟩ := resAll_R hm he h2
      have key : ∃ x : Value, (resSem a.tmps r).run P w = .ok x w ∧ CR S w (plOf st.rows ρ) c x ∧ C.ok used c := by
        cases r with
        | tmp t =>
          simp only [resOne] at h1
          obtain ⟨x, f1, f2, f3⟩ := he.1 t c h1
          refine ⟨x, ?_, f2, f3⟩
          simp [resSem, Array.getD_eq_getD_getElem?, f1]
        | cell a' t =>
          simp only [resOne] at h1
          split at h1
          · rename_i r off hr
            split at h1
            · rename_i row hrow
              obtain ⟨x, f1, f2, f3⟩ := he.1 _ _ hr
              simp only [CR] at f2
              obtain ⟨ad, f4, f5⟩ := f2
              have f6 := f5 _ (plOf_some hrow)
              obtain ⟨G, k1, _⟩ := hm.row r row hrow
              have had : (asAddr (a.tmps.getD a' undef)).run P w = .ok ⟨(ρ r).b, (ρ r).o + off, none⟩ w := by
                simp [Array.getD_eq_getD_getElem?, f1, f4, f6, asAddr]
              split at h1
              · rename_i hag
                simp only [Option.bind_eq_some_iff] at h1
                obtain ⟨c0, g1, g2⟩ := h1
                obtain ⟨y, G1, k2, k3, _⟩ := RowR_get _ k1 g1
                refine ⟨y, ?_, readC_CR k3 g2, readC_ok (okL_get (hm.okc r row hrow).2 g1) g2⟩
                simp only [resSem, Sem.run_bind, had, Result.andThen_ok, run_loadVar_one hag k2]
              · rename_i hag
                split at h1
                · rename_i n hn
                  split at h1
                  · rename_i hl
                    simp only [Option.map_eq_some_iff] at h1
                    obtain ⟨ds, g1, rfl⟩ := h1
                    obtain ⟨vs, m1, m2, m3⟩ := readL_CR (RowR_mid k1 off n hl) g1
                    have m4 : vs.length = n := by rw [m2, List.length_take, List.length_drop]; omega
                    refine ⟨.agg vs.toArray, ?_, by simp only [CR]; exact ⟨_, rfl, by simpa using m3⟩, by simp only [C.ok]; exact readL_ok (okL_mid (hm.okc r row hrow).2 off n) g1⟩
                    simp only [resSem, Sem.run_bind, had, Result.andThen_ok, run_loadVar_many hag (by rw [hn, m4]) m1]
                  · cases h1
                · cases h1
              · cases h1
            · cases h1
          · cases h1
      obtain ⟨x, f1, f2, f3⟩ := key
      refine ⟨x :: xs, ?_, by simp only [CRL]; exact ⟨x, xs, rfl, f2, e2⟩, by simp only [C.okL]; exact ⟨f3, e3⟩⟩
      rw [List.mapM_cons]
      simp only [Sem.run_bind, f1, Result.andThen_ok, e1, Sem.run_pure]
    · cases h
theorem CRL_append : ∀ {cs ds : List C} {vs ws : List Value}, CRL S w pl cs vs → CRL S w pl ds ws → CRL S w pl (cs ++ ds) (vs ++ ws)
  | [], _, _, _, h, k => by simp only [CRL] at h; subst h; exact k
  | c :: cs, ds, _, ws, h, k => by
    simp only [CRL] at h
    obtain ⟨x, xs, rfl, h2, h3⟩ := h
    simp only [List.cons_append, CRL]
    exact ⟨x, xs ++ ws, rfl, h2, CRL_append h3 k⟩
theorem CRL_io : ∀ {args : List Arg} {cs : List C} {vs : List Value}, CRL S w pl cs vs → CRL S w pl (ioCs args cs) (ioVals args vs)
  | [], cs, vs, h => by simp only [ioCs, ioVals, CRL]
  | a :: args, [], vs, h => by simp only [CRL] at h; subst h; cases a <;> simp only [ioCs, ioVals, CRL]
  | a :: args, c :: cs, vs, h => by
    simp only [CRL] at h
    obtain ⟨x, xs, rfl, h2, h3⟩ := h
    have ih := CRL_io (args := args) h3
    cases a with
    | io t => simp only [ioCs, ioVals, CRL]; exact ⟨x, _, rfl, h2, ih⟩
    | ro t => simpa only [ioCs, ioVals] using ih
    | own t => simpa only [ioCs, ioVals] using ih
theorem exit_R {fn : Func} {args : List Arg} {outs : List V} {res : V} (h : R X st a w) (hx : Exits P fn args outs res st) : ∃ x F, (results fn a.tmps).run P w = .ok x w ∧ LO X.S w (outs ++ [res]) (ioVals args X.av ++ [x]) F ∧ F.dis X.K ∧ (∀ b o, F b o → X.B ≤ b ∧ b < w.heap.size) := by
  obtain ⟨cr, n, rows', h1, h2⟩ := hx
  obtain ⟨ρ, Fp, hm, he⟩ := h.mem
  have key : ∃ x, (results fn a.tmps).run P w = .ok x w ∧ CR X.S w (plOf st.rows ρ) cr x := by
    unfold resC at h1
    split at h1
    · rename_i c hc
      simp only [Option.some.injEq] at h1
      subst h1
      obtain ⟨xs, e1, e2, _⟩ := resAll_R (P := P) hm he hc
      simp only [CRL] at e2
      obtain ⟨x, ys, rfl, e4, rfl⟩ := e2
      refine ⟨x, ?_, e4⟩
      rw [results_eq, Array.mapM_eq_mapM_toList]
      simp only [Sem.run_bind, Sem.run_map, e1, Result.andThen_ok]
      simp
    · rename_i cs hne hc
      simp only [Option.some.injEq] at h1
      subst h1
      obtain ⟨xs, e1, e2, _⟩ := resAll_R (P := P) hm he hc
      have hl := CRL_length e2
      have hl1 : cs.length ≠ 1 := fun e => by
        obtain ⟨c, rfl⟩ := List.length_eq_one_iff.1 e
        exact hne c rfl
      refine ⟨.tuple xs.toArray, ?_, by simp only [CR]; exact ⟨_, rfl, e2⟩⟩
      rw [results_eq, Array.mapM_eq_mapM_toList]
      simp only [Sem.run_bind, Sem.run_map, e1, Result.andThen_ok]
      have : ¬ xs.length = 1 := by omega
      simp [this]
    · cases h1
  obtain ⟨x, e1, e2⟩ := key
  have e3 := CRL_append (CRL_io (args := args) he.2.1) (show CRL X.S w (plOf st.rows ρ) [cr] [x] by simp only [CRL]; exact ⟨x, [], rfl, e2, rfl⟩)
  obtain ⟨f1, F, f2, f3⟩ := mapClo_LO hm (clo_OK hm n) (fun _ _ => CR_CellR) _ (fun _ _ => id) e3 h2
  refine ⟨x, F, e1, f2, fun b o h4 h5 => ?_, fun b o h4 => ?_⟩
  · obtain ⟨r, row, g1, g2, g3⟩ := f3 b o h4
    exact hm.kdis r row g1 b o g3 h5
  · obtain ⟨r, row, g1, g2, g3⟩ := f3 b o h4
    exact hm.low r row g1 b o g3
/-- A contract out of a walk. -/
theorem contract_of {f : FuncId} {fn : Func} {c : Code} {args : List Arg} {outs : List V} {res : V} (hf : P.funcs[f]? = some fn) (hb : fn.body = some c)
    (h : ∀ X a w, R X (entry args fn.ntmps) a w → c.wp P (fun e a' w' => (e = .normal ∨ e = .ret) ∧ ∃ st', R X st' a' w' ∧ Exits P fn args outs res st') a w) : Contract P f args outs res := by
  intro S K B w vs F hsub hk hB hv hF hl
  refine calls_of_wp hf hb ?_
  refine wp_mono (h ⟨S, K, B, w, vs.toList⟩ _ _ (entry_R hsub hk hB hv hF hl)) ?_
  rintro e a' w' ⟨he, st', hr, hx⟩
  obtain ⟨x, F', e1, e2, e3, e4⟩ := exit_R hr hx
  have : a'.defers = [] ∧ ∃ v, (results fn a'.tmps).run P w' = .ok v w' ∧ ∃ x F', Ending.returned v = .returned x ∧ LO S w' (outs ++ [res]) (ioVals args vs.toList ++ [x]) F' ∧ F'.dis K ∧ (∀ b o, F' b o → B ≤ b ∧ b < w'.heap.size) ∧ Below B w w' ∧ Same K w w' :=
    ⟨hr.nodef, x, e1, x, F', rfl, e2, e3, e4, hr.below, hr.keep⟩
  rcases he with rfl | rfl <;> exact this
end
end Go.Eng
namespace Go.Eng
open Go.RowKit (Below)
/-- How an argument is handed: to be read; to be read and written (a pointer: to how many cells); for good. -/
inductive Mode where
  | ro
  | io (pn : Option Nat)
  | own
/-- What was lent of a row: from where, how many of its cells are told anew. -/
structure Ln where
  r : Nat
  off : Nat
  n : Nat
def lendLeaf (fuel : Nat) (pn : Option Nat) (rows : Rows) : C → Option (V × Rows)
  | .v (.sc x) => some (.sc x, rows)
  | .v t => some (.im t, rows)
  | .sr r off E len => match rows r with
    | some row => if off + len * E ≤ row.cells.length then (mapClo (clo fuel) (upd rows r none) ((row.cells.drop off).take (len * E))).map fun q => (.sl E len q.1, q.2) else none
    | none => none
  | .pr r off => match rows r with
    | some row => if off + pn.getD (row.cells.length - off) ≤ row.cells.length then (mapClo (clo fuel) (upd rows r none) ((row.cells.drop off).take (pn.getD (row.cells.length - off)))).map fun q => (.bx q.1, q.2) else none
    | none => none
  | _ => none
def lendC (fuel : Nat) (pn : Option Nat) (rows : Rows) : C → Option (V × Rows)
  | .ag cs => (mapClo (lendLeaf fuel none) rows cs).map fun q => (.ag q.1, q.2)
  | .fn f cs => (mapClo (lendLeaf fuel none) rows cs).map fun q => (.fn f q.1, q.2)
  | c => lendLeaf fuel pn rows c
/-- What is lent by a value: from where, how many cells are told anew, how many there are. -/
def lnLeaf (rows0 : Rows) (pn : Option Nat) : C → Value → List (Ln × Nat)
  | .sr r off E _, .slice _ _ cap => match rows0 r with
    | some row => [(⟨r, off, row.cells.length - off⟩, cap * E)]
    | none => []
  | .pr r off, _ => match rows0 r with
    | some row => [(⟨r, off, pn.getD (row.cells.length - off)⟩, pn.getD (row.cells.length - off))]
    | none => []
  | _, _ => []
def lnL (rows0 : Rows) : List C → List Value → List (Ln × Nat)
  | c :: cs, x :: xs => lnLeaf rows0 none c x ++ lnL rows0 cs xs
  | _, _ => []
def lnC (rows0 : Rows) (pn : Option Nat) : C → Value → List (Ln × Nat)
  | .ag cs, .agg vs => lnL rows0 cs vs.toList
  | .fn _ cs, .func _ _ vs => lnL rows0 cs vs.toList
  | c, x => lnLeaf rows0 pn c x
/-- What of the row is not lent. -/
structure Rest (S : FS) (w : World) (pl : Nat → Option Pl) (p : Pl) (Fr F : FS) (cells : List C) (off n m : Nat) : Prop where
  ex : ∃ Gb Ga, RowR S w pl (cells.take off) p.b p.o Gb ∧ RowR S w pl (cells.drop (off + n)) p.b (p.o + off + n) Ga ∧ Gb.dis Ga ∧ Gb.sub Fr ∧ Ga.sub Fr ∧ Gb.dis F ∧ Ga.dis F ∧ p.fs.dis Gb ∧ p.fs.dis Ga
  bef : ∀ j, j < off → ¬ F p.b (p.o + j)
  aft : ∀ j, off + n ≤ j → j < cells.length → ¬ F p.b (p.o + j)
  le : off + n ≤ cells.length
  inm : ∀ j, j < p.ext → F p.b (p.o + j) → off ≤ j ∧ j < off + m
  me : off + m ≤ p.ext
/-- What was lent. -/
def LentL (S : FS) (w : World) (pl : Nat → Option Pl) (ρ : Nat → Pl) (Fp : Nat → FS) (rows rows' : Rows) (F : FS) : List (Ln × Nat) → Prop
  | [] => True
  | ln :: ls => (∃ row, rows ln.1.r = some row ∧ rows' ln.1.r = none ∧ Rest S w pl (ρ ln.1.r) (Fp ln.1.r) F row.cells ln.1.off ln.1.n ln.2) ∧ LentL S w pl ρ Fp rows rows' F ls
section
variable {P : Program} {X : Ctx} {o : Oper} {st st' : St} {a : Act} {w w' : World} {S S' K : FS} {B : Nat} {pl : Nat → Option Pl} {used : Nat → Bool} {rows0 : Rows} {ρ : Nat → Pl} {Fp : Nat → FS}
theorem Rest.mono {p : Pl} {Fr F F' : FS} {cells : List C} {off n m : Nat} (h : Rest S w pl p Fr F cells off n m) (hr : ∀ b o, F' b o → F b o ∨ ¬ Fr b o) (hfs : p.fs.sub Fr) (hl : cells.length ≤ p.ext) : Rest S w pl p Fr F' cells off n m := by
  obtain ⟨⟨Gb, Ga, h1, h2, h3, h4, h5, h6, h7, h8, h9⟩, hb, ha, hle, him, hme⟩ := h
  refine ⟨⟨Gb, Ga, h1, h2, h3, h4, h5, fun b o x y => ?_, fun b o x y => ?_, h8, h9⟩, fun j hj y => ?_, fun j hj hj' y => ?_, hle, fun j hj y => ?_, hme⟩
  · exact (hr b o y).elim (fun z => h6 b o x z) (fun z => z (h4 b o x))
  · exact (hr b o y).elim (fun z => h7 b o x z) (fun z => z (h5 b o x))
  · exact (hr _ _ y).elim (fun z => hb j hj z) (fun z => z (hfs _ _ ⟨rfl, by omega, by omega⟩))
  · exact (hr _ _ y).elim (fun z => ha j hj hj' z) (fun z => z (hfs _ _ ⟨rfl, by omega, by omega⟩))
  · exact (hr _ _ y).elim (fun z => him j hj z) (fun z => absurd (hfs _ _ ⟨rfl, by omega, by omega⟩) z)
theorem lend_part (hm : Mem S K B rows0 used ρ Fp w) {rows rows' : Rows} (h0 : Subr rows rows0) {fuel r off n m : Nat} {row : Row} {ts : List V} (hr : rows r = some row) (hl : off + n ≤ row.cells.length) (h : mapClo (clo fuel) (upd rows r none) ((row.cells.drop off).take n) = some (ts, rows')) (hme : off + m ≤ (ρ r).ext) (hnm : n ≤ m) :
    Subr rows' rows ∧ rows' r = none ∧ ts.length = n ∧ ∃ G, CO S w ts (ρ r).b ((ρ r).o + off) G ∧ (chunk (ρ r).b ((ρ r).o + off) m).dis G ∧ Free w (ρ r).b ((ρ r).o + off) m ∧ ((chunk (ρ r).b ((ρ r).o + off) m).or G).sub (gone rows rows' Fp) ∧
      ∀ q, off + q ≤ row.cells.length → ((m ≤ q ∧ q = n) ∨ off + q = row.cells.length) → Rest S w (plOf rows0 ρ) (ρ r) (Fp r) ((chunk (ρ r).b ((ρ r).o + off) m).or G) row.cells off q m := by
  obtain ⟨Gr, k1, k2, k3, k4, k5, k6⟩ := hm.row r row (h0 r row hr)
  have e1 : row.cells.take off ++ row.cells.drop off = row.cells := List.take_append_drop off row.cells
  rw [← e1] at k1
  obtain ⟨G1, G2, a1, a2, a3, a4, a5⟩ := RowR_split _ _ k1
  rw [List.length_take, Nat.min_eq_left (by omega)] at a2
  rw [← List.take_append_drop n (row.cells.drop off)] at a2
  obtain ⟨Gm, Ga, b1, b2, b3, b4, b5⟩ := RowR_split _ _ a2
  rw [List.length_take, List.length_drop, Nat.min_eq_left (by omega), List.drop_drop] at b2
  have hdl : ∀ j row', upd rows r none j = some row' → Gm.dis (Fp j) := fun j row' hj => by
    have hne : j ≠ r := by rintro rfl; simp at hj
    have hj' := Subr.del (r := r) j row' hj
    exact (hm.sep r j row row' (Ne.symm hne) (h0 r row hr) (h0 j row' hj')).mono ((b4.trans a5).trans k4) FS.sub.refl
  obtain ⟨f1, f0, G, f2, f3⟩ := mapClo_CO hm (clo_OK hm fuel) _ (fun j row' hj => h0 j row' (Subr.del j row' hj)) b1 hdl h
  have hsub : Subr rows' rows := fun j row' hj => Subr.del j row' (f1 j row' hj)
  have hrn : rows' r = none := by
    cases hq : rows' r with
    | none => rfl
    | some q => have := f1 r q hq; simp at this
  have hgr : (Fp r).sub (gone rows rows' Fp) := fun b o hf => ⟨r, row, hr, hrn, hf⟩
  have hgd : (gone (upd rows r none) rows' Fp).sub (gone rows rows' Fp) := (gone_mono (r1 := rows) (r2 := upd rows r none) (r3 := rows') Subr.del f1).2
  have hck : (chunk (ρ r).b ((ρ r).o + off) m).sub (ρ r).fs := chunk_sub (b' := (ρ r).b) (o' := (ρ r).o) (n' := (ρ r).ext) rfl (by omega) (by omega)
  have hoth : ∀ b o, gone (upd rows r none) rows' Fp b o → ¬ Fp r b o := fun b o ⟨j, row', g1, g2, g3⟩ hf => by
    have hne : j ≠ r := by rintro rfl; simp at g1
    exact hm.sep r j row row' (Ne.symm hne) (h0 r row hr) (h0 j row' (Subr.del (r := r) j row' g1)) b o hf g3
  refine ⟨hsub, hrn, by rw [f0, List.length_take, List.length_drop]; omega, G, f2, ?_, ?_, ?_, ?_⟩
  · intro b o h1 h2
    rcases f3 b o h2 with h2 | h2
    · exact k5 b o (hck b o h1) (a5 b o (b4 b o h2))
    · exact hoth b o h2 (k3 b o (hck b o h1))
  · intro j hj
    have := k6 (off + j) (by omega)
    rwa [show (ρ r).o + (off + j) = (ρ r).o + off + j by omega] at this
  · exact FS.or_sub (hck.trans (k3.trans hgr)) (f3.trans (FS.or_sub ((b4.trans a5).trans (k4.trans hgr)) hgd))
  · intro q hq hq2
    have hgG1 : G1.dis ((chunk (ρ r).b ((ρ r).o + off) m).or G) := fun b o h1 h2 => by
      rcases h2 with h2 | h2
      · exact k5 b o (hck b o h2) (a4 b o h1)
      · rcases f3 b o h2 with h2 | h2
        · exact a3 b o h1 (b4 b o h2)
        · exact hoth b o h2 (k4 b o (a4 b o h1))
    have hfs1 : (ρ r).fs.dis G1 := k5.mono FS.sub.refl a4
    have hnf : ∀ j, j < (ρ r).ext → (j < off ∨ off + m ≤ j) → ¬ ((chunk (ρ r).b ((ρ r).o + off) m).or G) (ρ r).b ((ρ r).o + j) := fun j hj hj2 hf => by
      have hin : (ρ r).fs (ρ r).b ((ρ r).o + j) := ⟨rfl, by omega, by omega⟩
      rcases hf with ⟨_, c2, c3⟩ | h2
      · omega
      · rcases f3 _ _ h2 with h2 | h2
        · exact k5 _ _ hin (a5 _ _ (b4 _ _ h2))
        · exact hoth _ _ h2 (k3 _ _ hin)
    refine ⟨?_, fun j hj => hnf j (by omega) (.inl hj), fun j hj hj' => ?_, hq, fun j hj hf => by
      by_cases hjo : off ≤ j ∧ j < off + m
      · exact hjo
      · exact absurd hf (hnf j hj (by omega)), hme⟩
    · rcases hq2 with ⟨hmq, rfl⟩ | hq2
      · refine ⟨G1, Ga, a1, b2, a3.mono FS.sub.refl b5, a4.trans k4, (b5.trans a5).trans k4, hgG1, fun b o h1 h2 => ?_, hfs1, k5.mono FS.sub.refl (b5.trans a5)⟩
        rcases h2 with h2 | h2
        · exact k5 b o (hck b o h2) (a5 b o (b5 b o h1))
        · rcases f3 b o h2 with h2 | h2
          · exact b3 b o h2 h1
          · exact hoth b o h2 (k4 b o (a5 b o (b5 b o h1)))
      · refine ⟨G1, FS.none, a1, ?_, FS.dis_none, a4.trans k4, FS.none_sub, hgG1, FS.none_dis, hfs1, FS.dis_none⟩
        rw [List.drop_eq_nil_of_le (by omega)]
        simp only [RowR]
    · rcases hq2 with ⟨hmq, rfl⟩ | hq2
      · exact hnf j (by omega) (.inr (by omega))
      · omega
/-- A leaf lent: the tree, and what of its row stays. -/
theorem lendLeaf_R (hm : Mem S K B rows0 used ρ Fp w) {rows rows' : Rows} (h0 : Subr rows rows0) {fuel : Nat} {pn : Option Nat} {c : C} {y : Value} {t : V} (hc : CR S w (plOf rows0 ρ) c y) (h : lendLeaf fuel pn rows c = some (t, rows')) :
    Subr rows' rows ∧ ∃ F, VO S w t y F ∧ F.sub (gone rows rows' Fp) ∧ LentL S w (plOf rows0 ρ) ρ Fp rows rows' F (lnLeaf rows0 pn c y) := by
  unfold lendLeaf at h
  split at h
  · simp only [Option.some.injEq, Prod.mk.injEq] at h
    obtain ⟨rfl, rfl⟩ := h
    exact ⟨fun _ _ => id, FS.none, by simpa only [VO, CR, VI] using hc, FS.none_sub, by simp only [lnLeaf, LentL]⟩
  · simp only [Option.some.injEq, Prod.mk.injEq] at h
    obtain ⟨rfl, rfl⟩ := h
    exact ⟨fun _ _ => id, FS.none, by simpa only [VO, CR] using hc, FS.none_sub, by simp only [lnLeaf, LentL]⟩
  · rename_i r off E len
    split at h
    · rename_i row hr
      split at h
      · rename_i hl
        simp only [Option.map_eq_some_iff] at h
        obtain ⟨⟨ts, rows1⟩, h1, h2⟩ := h
        simp only [Prod.mk.injEq] at h2
        obtain ⟨rfl, rfl⟩ := h2
        simp only [CR] at hc
        obtain ⟨ad, cap, e1, e2, e3⟩ := hc
        subst e1
        have e4 := e3 _ (plOf_some (h0 r row hr))
        obtain ⟨_, _, k2, _⟩ := hm.row r row (h0 r row hr)
        have hln : lnLeaf rows0 pn (.sr r off E len) (.slice ad len cap) = [(⟨r, off, row.cells.length - off⟩, cap * E)] := by simp only [lnLeaf, h0 r row hr]
        rw [hln]
        by_cases hcap : cap = 0
        · subst hcap
          have hlen : len = 0 := by omega
          subst hlen
          obtain ⟨p1, p2, p3, G, p4, p5, p6, p7, p8⟩ := lend_part hm h0 (m := 0) hr hl h1 (by omega) (by omega)
          have hts : ts = [] := List.length_eq_zero_iff.1 (by simpa using p3)
          refine ⟨p1, _, ?_, p7, ⟨⟨row, hr, p2, by simpa using p8 (row.cells.length - off) (by omega) (.inr (by omega))⟩, trivial⟩⟩
          simp only [VO]
          exact ⟨ad, 0, rfl, e2, .inl ⟨rfl, hts⟩⟩
        · obtain ⟨e5, e6⟩ := e4.resolve_left hcap
          have hle : len * E ≤ cap * E := Nat.mul_le_mul_right _ e2
          obtain ⟨p1, p2, p3, G, p4, p5, p6, p7, p8⟩ := lend_part hm h0 (m := cap * E) hr hl h1 (by omega) hle
          refine ⟨p1, _, ?_, p7, ⟨⟨row, hr, p2, p8 _ (by simp only; omega) (.inr (by simp only; omega))⟩, trivial⟩⟩
          simp only [VO]
          exact ⟨ad, cap, rfl, e2, .inr ⟨_, _, G, e5, by omega, p4, FS.sub_or_left, FS.sub_or_right, p5, p6⟩⟩
      · cases h
    · cases h
  · rename_i r off
    split at h
    · rename_i row hr
      split at h
      · rename_i hl
        simp only [Option.map_eq_some_iff] at h
        obtain ⟨⟨ts, rows1⟩, h1, h2⟩ := h
        simp only [Prod.mk.injEq] at h2
        obtain ⟨rfl, rfl⟩ := h2
        simp only [CR] at hc
        obtain ⟨ad, e1, e3⟩ := hc
        have e4 := e3 _ (plOf_some (h0 r row hr))
        obtain ⟨_, _, k2, _⟩ := hm.row r row (h0 r row hr)
        have hln : lnLeaf rows0 pn (.pr r off) y = [(⟨r, off, pn.getD (row.cells.length - off)⟩, pn.getD (row.cells.length - off))] := by simp only [lnLeaf, h0 r row hr]
        rw [hln]
        obtain ⟨p1, p2, p3, G, p4, p5, p6, p7, p8⟩ := lend_part hm h0 (m := pn.getD (row.cells.length - off)) hr hl h1 (by omega) (Nat.le_refl _)
        refine ⟨p1, _, ?_, p7, ⟨⟨row, hr, p2, p8 _ (by simp only; omega) (.inl ⟨Nat.le_refl _, rfl⟩)⟩, trivial⟩⟩
        simp only [VO]
        exact ⟨_, _, G, by rw [e1, e4], p4, by rw [p3]; exact FS.sub_or_left, FS.sub_or_right, by rw [p3]; exact p5, by rw [p3]; exact p6⟩
      · cases h
    · cases h
  · cases h
theorem LentL_append {rows rows' : Rows} {F : FS} : ∀ {ls ks : List (Ln × Nat)}, LentL S w pl ρ Fp rows rows' F ls → LentL S w pl ρ Fp rows rows' F ks → LentL S w pl ρ Fp rows rows' F (ls ++ ks)
  | [], _, _, k => k
  | _ :: _, _, h, k => ⟨h.1, LentL_append h.2 k⟩
/-- More is lent elsewhere. -/
theorem LentL_mono (hm : Mem S K B rows0 used ρ Fp w) {r1 r2 r1' r2' : Rows} {F F' : FS} (h0 : Subr r1' rows0) (h1 : Subr r1 r1') (h2 : ∀ r row, r1 r = some row → r2 r = none → r2' r = none) (hF : ∀ r row, r1 r = some row → r2 r = none → ∀ b o, F' b o → F b o ∨ ¬ Fp r b o) : ∀ {ls : List (Ln × Nat)}, LentL S w pl ρ Fp r1 r2 F ls → LentL S w pl ρ Fp r1' r2' F' ls
  | [], _ => trivial
  | ln :: ls, ⟨⟨row, e1, e2, e3⟩, h⟩ => by
    obtain ⟨_, _, k2, k3, _⟩ := hm.row ln.1.r row (h0 _ _ (h1 _ _ e1))
    exact ⟨⟨row, h1 _ _ e1, h2 _ _ e1 e2, e3.mono (hF _ _ e1 e2) k3 k2⟩, LentL_mono hm h0 h1 h2 hF h⟩
theorem subr_none {r1 r2 : Rows} (h : Subr r2 r1) {r : Nat} (hr : r1 r = none) : r2 r = none := by
  cases hq : r2 r with
  | none => rfl
  | some q => rw [h r q hq] at hr; cases hr
/-- What lies in rows that go later is not of a row that went before. -/
theorem gone_apart (hm : Mem S K B rows0 used ρ Fp w) {r1 r2 r3 : Rows} (h0 : Subr r1 rows0) (h12 : Subr r2 r1) {r : Nat} {row : Row} (hr : r1 r = some row) (hr2 : r2 r = none) {b o : Nat} (hg : gone r2 r3 Fp b o) : ¬ Fp r b o := by
  intro hf
  obtain ⟨j, row', e1, e2, e3⟩ := hg
  have hne : r ≠ j := by rintro rfl; rw [hr2] at e1; cases e1
  exact hm.sep r j row row' hne (h0 r row hr) (h0 j row' (h12 j row' e1)) b o hf e3
theorem gone_apart' (hm : Mem S K B rows0 used ρ Fp w) {r1 r2 : Rows} (h0 : Subr r1 rows0) {r : Nat} {row : Row} (hr : r1 r = some row) (hr2 : r2 r = some row) {b o : Nat} (hg : gone r1 r2 Fp b o) : ¬ Fp r b o := by
  intro hf
  obtain ⟨j, row', e1, e2, e3⟩ := hg
  have hne : r ≠ j := by rintro rfl; rw [hr2] at e2; cases e2
  exact hm.sep r j row row' hne (h0 r row hr) (h0 j row' e1) b o hf e3
theorem lendL_R (hm : Mem S K B rows0 used ρ Fp w) {fuel : Nat} : ∀ (cs : List C) {rows rows' : Rows} {vs : List Value} {ts : List V}, Subr rows rows0 → CRL S w (plOf rows0 ρ) cs vs → mapClo (lendLeaf fuel none) rows cs = some (ts, rows') →
    Subr rows' rows ∧ ∃ F, LO S w ts vs F ∧ F.sub (gone rows rows' Fp) ∧ LentL S w (plOf rows0 ρ) ρ Fp rows rows' F (lnL rows0 cs vs)
  | [], rows, rows', vs, ts, h0, hr, h => by
    simp only [mapClo, Option.some.injEq, Prod.mk.injEq] at h
    obtain ⟨rfl, rfl⟩ := h
    simp only [CRL] at hr
    subst hr
    exact ⟨fun _ _ => id, FS.none, by simp only [LO], FS.none_sub, by simp only [lnL, LentL]⟩
  | c :: cs, rows, rows', vs, ts, h0, hr, h => by
    simp only [mapClo] at h
    split at h
    · rename_i t rows1 h1
      split at h
      · rename_i ts' rows2 h2
        simp only [Option.some.injEq, Prod.mk.injEq] at h
        obtain ⟨rfl, rfl⟩ := h
        simp only [CRL] at hr
        obtain ⟨x, xs, rfl, k2, k3⟩ := hr
        obtain ⟨e1, F1, e2, e3, e4⟩ := lendLeaf_R hm h0 k2 h1
        obtain ⟨f1, F2, f2, f3, f4⟩ := lendL_R hm cs (fun r row hr => h0 r row (e1 r row hr)) k3 h2
        refine ⟨fun r row hr => e1 r row (f1 r row hr), F1.or F2, ?_, ?_, ?_⟩
        · simp only [LO]
          exact ⟨x, xs, F1, F2, rfl, e2, f2, gone_dis hm h0 e1 FS.none_dis (fun _ _ _ => FS.none_dis) (fun _ _ _ => FS.none_dis) (e3.trans FS.sub_or_right) (f3.trans FS.sub_or_right), FS.sub_or_left, FS.sub_or_right⟩
        · exact FS.or_sub (e3.trans (gone_mono e1 f1).1) (f3.trans (gone_mono e1 f1).2)
        · simp only [lnL]
          refine LentL_append ?_ ?_
          · refine LentL_mono hm h0 (fun _ _ => id) (fun r row hr hr2 => subr_none f1 hr2) (fun r row hr hr2 b o hf => ?_) e4
            exact hf.imp id (fun hf => gone_apart hm h0 e1 hr hr2 (f3 b o hf))
          · refine LentL_mono hm h0 e1 (fun _ _ _ => id) (fun r row hr hr2 b o hf => ?_) f4
            rcases hf with hf | hf
            · exact .inr (gone_apart' hm h0 (e1 r row hr) hr (e3 b o hf))
            · exact .inl hf
      · cases h
    · cases h
theorem lendC_R (hm : Mem S K B rows0 used ρ Fp w) {rows rows' : Rows} (h0 : Subr rows rows0) {fuel : Nat} {pn : Option Nat} {c : C} {y : Value} {t : V} (hc : CR S w (plOf rows0 ρ) c y) (h : lendC fuel pn rows c = some (t, rows')) :
    Subr rows' rows ∧ ∃ F, VO S w t y F ∧ F.sub (gone rows rows' Fp) ∧ LentL S w (plOf rows0 ρ) ρ Fp rows rows' F (lnC rows0 pn c y) := by
  cases c with
  | ag cs =>
    simp only [lendC, Option.map_eq_some_iff] at h
    obtain ⟨⟨ts, rows1⟩, h1, h2⟩ := h
    simp only [Prod.mk.injEq] at h2
    obtain ⟨rfl, rfl⟩ := h2
    simp only [CR] at hc
    obtain ⟨vs, rfl, e2⟩ := hc
    obtain ⟨f1, F, f2, f3, f4⟩ := lendL_R hm cs h0 e2 h1
    exact ⟨f1, F, by simp only [VO]; exact ⟨vs, rfl, f2⟩, f3, by simp only [lnC]; exact f4⟩
  | fn f cs =>
    simp only [lendC, Option.map_eq_some_iff] at h
    obtain ⟨⟨ts, rows1⟩, h1, h2⟩ := h
    simp only [Prod.mk.injEq] at h2
    obtain ⟨rfl, rfl⟩ := h2
    simp only [CR] at hc
    obtain ⟨vs, rfl, e2⟩ := hc
    obtain ⟨f1, F, f2, f3, f4⟩ := lendL_R hm cs h0 e2 h1
    exact ⟨f1, F, by simp only [VO]; exact ⟨vs, rfl, f2⟩, f3, by simp only [lnC]; exact f4⟩
  | v t' => exact lendLeaf_R (fuel := fuel) (pn := pn) hm h0 hc h
  | own t' => exact lendLeaf_R (fuel := fuel) (pn := pn) hm h0 hc h
  | sr r off E len => exact lendLeaf_R (fuel := fuel) (pn := pn) hm h0 hc h
  | pr r off => exact lendLeaf_R (fuel := fuel) (pn := pn) hm h0 hc h
  | tp cs => exact lendLeaf_R (fuel := fuel) (pn := pn) hm h0 hc h
  | dead => exact lendLeaf_R (fuel := fuel) (pn := pn) hm h0 hc h
end
end Go.Eng
namespace Go.Eng
open Go.RowKit (Below)
def bkLeaf (rows0 : Rows) (pn : Option Nat) : C → V → Option (List (List V))
  | .sr r _ E _, .sl E' _ ts => match rows0 r with
    | some _ => if E' = E then some [ts] else none
    | none => none
  | .pr r off, .bx ts => match rows0 r with
    | some row => if ts.length = pn.getD (row.cells.length - off) then some [ts] else none
    | none => none
  | .v _, _ => some []
  | _, _ => none
def bkL (rows0 : Rows) : List C → List V → Option (List (List V))
  | [], [] => some []
  | c :: cs, t :: ts => match bkLeaf rows0 none c t, bkL rows0 cs ts with
    | some l, some ls => some (l ++ ls)
    | _, _ => none
  | _, _ => none
def bkC (rows0 : Rows) (pn : Option Nat) : C → V → Option (List (List V))
  | .ag cs, .ag ts => bkL rows0 cs ts
  | .fn _ cs, .fn _ ts => bkL rows0 cs ts
  | .ag _, _ => none
  | .fn _ _, _ => none
  | c, t => bkLeaf rows0 pn c t
/-- What comes back of what was lent. -/
def BackL (S : FS) (w : World) (ρ : Nat → Pl) : List (Ln × Nat) → List (List V) → FS → Prop
  | [], [], _ => True
  | (ln, m) :: ls, ts :: tss, F => ∃ F1 F2 G, CO S w ts (ρ ln.r).b ((ρ ln.r).o + ln.off) G ∧ ts.length ≤ m ∧ (chunk (ρ ln.r).b ((ρ ln.r).o + ln.off) m).sub F1 ∧ G.sub F1 ∧ (chunk (ρ ln.r).b ((ρ ln.r).o + ln.off) m).dis G ∧ Free w (ρ ln.r).b ((ρ ln.r).o + ln.off) m ∧ BackL S w ρ ls tss F2 ∧ F1.dis F2 ∧ F1.sub F ∧ F2.sub F
  | _, _, _ => False
section
variable {P : Program} {X : Ctx} {o : Oper} {st st' : St} {a : Act} {w w' : World} {S S' K : FS} {B : Nat} {pl : Nat → Option Pl} {used : Nat → Bool} {rows0 : Rows} {ρ : Nat → Pl} {Fp : Nat → FS}
theorem BackL_sub : ∀ {ls : List (Ln × Nat)} {tss : List (List V)} {F F' : FS}, F.sub F' → BackL S w ρ ls tss F → BackL S w ρ ls tss F'
  | [], [], _, _, _, h => h
  | [], _ :: _, _, _, _, h => h
  | _ :: _, [], _, _, _, h => h
  | _ :: _, _ :: _, _, _, hs, ⟨F1, F2, G, h1, h2, h3, h4, h5, h6, h7, h8, h9, h10⟩ => ⟨F1, F2, G, h1, h2, h3, h4, h5, h6, h7, h8, h9.trans hs, h10.trans hs⟩
theorem BackL_append : ∀ {ls ks : List (Ln × Nat)} {tss uss : List (List V)} {F G : FS}, BackL S w ρ ls tss F → BackL S w ρ ks uss G → F.dis G → BackL S w ρ (ls ++ ks) (tss ++ uss) (F.or G)
  | [], _, [], _, _, _, _, k, _ => BackL_sub FS.sub_or_right k
  | [], _, _ :: _, _, _, _, h, _, _ => h.elim
  | _ :: _, _, [], _, _, _, h, _, _ => h.elim
  | (ln, m) :: ls, ks, ts :: tss, uss, F, G, h, k, hd => by
    simp only [BackL] at h
    obtain ⟨F1, F2, G', h1, h2, h3, h4, h5, h6, h7, h8, h9, h10⟩ := h
    simp only [List.cons_append, BackL]
    exact ⟨F1, F2.or G, G', h1, h2, h3, h4, h5, h6, BackL_append h7 k (hd.mono h10 FS.sub.refl), fun b o hx hy => hy.elim (fun z => h8 b o hx z) (fun z => hd b o (h9 b o hx) z), h9.trans FS.sub_or_left, FS.or_sub (h10.trans FS.sub_or_left) FS.sub_or_right⟩
theorem bkLeaf_R {pn : Option Nat} {c : C} {y : Value} {t : V} {F : FS} {tss : List (List V)} (hc : CR S w (plOf rows0 ρ) c y) (hv : VO S' w' t y F) (h : bkLeaf rows0 pn c t = some tss) : BackL S' w' ρ (lnLeaf rows0 pn c y) tss F := by
  unfold bkLeaf at h
  split at h
  · rename_i r off E len E' len' ts
    split at h
    · rename_i row hr
      split at h
      · rename_i hE
        subst hE
        simp only [Option.some.injEq] at h
        subst h
        simp only [CR] at hc
        obtain ⟨ad, cap, e1, e2, e3⟩ := hc
        subst e1
        simp only [VO] at hv
        obtain ⟨ad', cap', f1, f2, f3⟩ := hv
        simp only [Value.slice.injEq] at f1
        obtain ⟨rfl, rfl, rfl⟩ := f1
        simp only [lnLeaf, hr, BackL]
        have e4 := e3 _ (plOf_some hr)
        rcases f3 with ⟨rfl, rfl⟩ | ⟨b, p, G, g1, g2, g3, g4, g5, g6, g7⟩
        · refine ⟨FS.none, FS.none, FS.none, by simp only [CO], by simp, fun b o ⟨_, h2, h3⟩ => by simp at h3; omega, FS.none_sub, FS.dis_none, fun j hj => by simp at hj, trivial, FS.none_dis, FS.none_sub, FS.none_sub⟩
        · rcases e4 with rfl | ⟨e4, e5⟩
          · have hts : ts = [] := List.length_eq_zero_iff.1 (by simpa using g2)
            subst hts
            refine ⟨FS.none, FS.none, FS.none, by simp only [CO], by simp, fun b o ⟨_, h2, h3⟩ => by simp at h3; omega, FS.none_sub, FS.dis_none, fun j hj => by simp at hj, trivial, FS.none_dis, FS.none_sub, FS.none_sub⟩
          · rw [g1] at e4
            simp only [Option.some.injEq, Addr.mk.injEq, and_true] at e4
            obtain ⟨rfl, rfl⟩ := e4
            exact ⟨F, FS.none, G, g3, g2, g4, g5, g6, g7, trivial, FS.dis_none, FS.sub.refl, FS.none_sub⟩
      · cases h
    · cases h
  · rename_i r off ts
    split at h
    · rename_i row hr
      split at h
      · rename_i hl
        simp only [Option.some.injEq] at h
        subst h
        simp only [CR] at hc
        obtain ⟨ad, e1, e3⟩ := hc
        have e4 := e3 _ (plOf_some hr)
        subst e1 e4
        simp only [VO] at hv
        obtain ⟨b, p, G, g1, g3, g4, g5, g6, g7⟩ := hv
        simp only [Value.pointer.injEq, Option.some.injEq, Addr.mk.injEq, and_true] at g1
        obtain ⟨rfl, rfl⟩ := g1
        simp only [lnLeaf, hr, BackL]
        rw [← hl]
        exact ⟨F, FS.none, G, g3, Nat.le_refl _, g4, g5, g6, g7, trivial, FS.dis_none, FS.sub.refl, FS.none_sub⟩
      · cases h
    · cases h
  · simp only [Option.some.injEq] at h
    subst h
    simp only [lnLeaf, BackL]
  · cases h
theorem bkL_R : ∀ {cs : List C} {vs : List Value} {ts : List V} {F : FS} {tss : List (List V)}, CRL S w (plOf rows0 ρ) cs vs → LO S' w' ts vs F → bkL rows0 cs ts = some tss → BackL S' w' ρ (lnL rows0 cs vs) tss F
  | [], vs, [], F, tss, hc, hv, h => by
    simp only [bkL, Option.some.injEq] at h
    subst h
    simp only [CRL] at hc
    subst hc
    simp only [lnL, BackL]
  | [], vs, _ :: _, F, tss, hc, hv, h => by simp [bkL] at h
  | _ :: _, vs, [], F, tss, hc, hv, h => by simp [bkL] at h
  | c :: cs, vs, t :: ts, F, tss, hc, hv, h => by
    simp only [bkL] at h
    split at h
    · rename_i l ls h1 h2
      simp only [Option.some.injEq] at h
      subst h
      simp only [CRL] at hc
      obtain ⟨x, xs, rfl, k2, k3⟩ := hc
      simp only [LO] at hv
      obtain ⟨x', xs', F1, F2, g1, g2, g3, g4, g5, g6⟩ := hv
      simp only [List.cons.injEq] at g1
      obtain ⟨rfl, rfl⟩ := g1
      simp only [lnL]
      exact BackL_sub (FS.or_sub g5 g6) (BackL_append (bkLeaf_R k2 g2 h1) (bkL_R k3 g3 h2) g4)
    · cases h
theorem bkC_R {pn : Option Nat} {c : C} {y : Value} {t : V} {F : FS} {tss : List (List V)} (hc : CR S w (plOf rows0 ρ) c y) (hv : VO S' w' t y F) (h : bkC rows0 pn c t = some tss) : BackL S' w' ρ (lnC rows0 pn c y) tss F := by
  cases c with
  | ag cs =>
    cases t with
    | ag ts =>
      simp only [bkC] at h
      simp only [CR] at hc
      obtain ⟨vs, rfl, e2⟩ := hc
      simp only [VO] at hv
      obtain ⟨vs', e3, e4⟩ := hv
      simp only [Value.agg.injEq] at e3
      subst e3
      simp only [lnC]
      exact bkL_R e2 e4 h
    | _ => simp [bkC] at h
  | fn f cs =>
    cases t with
    | fn f' ts =>
      simp only [bkC] at h
      simp only [CR] at hc
      obtain ⟨vs, rfl, e2⟩ := hc
      simp only [VO] at hv
      obtain ⟨vs', e3, e4⟩ := hv
      simp only [Value.func.injEq] at e3
      obtain ⟨_, _, rfl⟩ := e3
      simp only [lnC]
      exact bkL_R e2 e4 h
    | _ => simp [bkC] at h
  | v t' => exact bkLeaf_R (pn := pn) hc hv (by cases t <;> exact h)
  | own t' => exact bkLeaf_R (pn := pn) hc hv (by cases t <;> exact h)
  | sr r off E len => exact bkLeaf_R (pn := pn) hc hv (by cases t <;> exact h)
  | pr r off => exact bkLeaf_R (pn := pn) hc hv (by cases t <;> exact h)
  | tp cs => exact bkLeaf_R (pn := pn) hc hv (by cases t <;> exact h)
  | dead => exact bkLeaf_R (pn := pn) hc hv (by cases t <;> exact h)
/-! The rows given back. -/
structure MemP (S K : FS) (B : Nat) (rows : Rows) (pl : Nat → Option Pl) (used : Nat → Bool) (ρ : Nat → Pl) (Fp : Nat → FS) (w : World) : Prop where
  row : ∀ r row, rows r = some row → ∃ G, RowR S w pl row.cells (ρ r).b (ρ r).o G ∧ row.cells.length ≤ (ρ r).ext ∧ (ρ r).fs.sub (Fp r) ∧ G.sub (Fp r) ∧ (ρ r).fs.dis G ∧ Free w (ρ r).b (ρ r).o (ρ r).ext
  sep : ∀ r r' row row', r ≠ r' → rows r = some row → rows r' = some row' → (Fp r).dis (Fp r')
  kdis : ∀ r row, rows r = some row → (Fp r).dis K
  low : ∀ r row, rows r = some row → ∀ b o, Fp r b o → B ≤ b ∧ b < w.heap.size
  okc : ∀ r row, rows r = some row → used r = true ∧ C.okL used row.cells
theorem MemP.mem {rows : Rows} (h : MemP S K B rows pl used ρ Fp w) (hp : ∀ r p, plOf rows ρ r = some p → pl r = some p) : Mem S K B rows used ρ Fp w where
  row := fun r row hr => by
    obtain ⟨G, h1, h2⟩ := h.row r row hr
    exact ⟨G, RowR_mono FS.sub.refl Same.refl _ (fun r p _ hq => hp r p hq) (h.okc r row hr).2 FS.sub.refl Same.refl (fun _ _ => rfl) h1, h2⟩
  sep := h.sep
  kdis := h.kdis
  low := h.low
  okc := h.okc
theorem MemP.add {rows : Rows} (h : MemP S K B rows pl used ρ Fp w) {r : Nat} (hn : rows r = none) {F G : FS} {row : Row} (hrow : RowR S w pl row.cells (ρ r).b (ρ r).o G) (hu : used r = true) (hk : C.okL used row.cells) (hl : row.cells.length ≤ (ρ r).ext) (hc : (ρ r).fs.sub F) (hg : G.sub F) (hd : (ρ r).fs.dis G)
    (hf : Free w (ρ r).b (ρ r).o (ρ r).ext) (hs : ∀ j row', rows j = some row' → F.dis (Fp j)) (hK : F.dis K) (hB : ∀ b o, F b o → B ≤ b ∧ b < w.heap.size) : MemP S K B (upd rows r (some row)) pl used ρ (upd Fp r F) w where
  row := fun j row' hj => by
    by_cases hne : j = r
    · subst hne
      simp only [upd_self, Option.some.injEq] at hj ⊢
      subst hj
      exact ⟨G, hrow, hl, hc, hg, hd, hf⟩
    · rw [upd_ne hne] at hj ⊢
      exact h.row j row' hj
  sep := fun i j row' row'' hij hi hj => by
    by_cases hi' : i = r
    · subst hi'
      have hj' : j ≠ i := fun e => hij e.symm
      rw [upd_ne hj'] at hj
      rw [upd_self, upd_ne hj']
      exact hs j row'' hj
    · rw [upd_ne hi'] at hi
      by_cases hj' : j = r
      · subst hj'
        rw [upd_self, upd_ne hi']
        exact (hs i row' hi).symm
      · rw [upd_ne hj'] at hj
        rw [upd_ne hi', upd_ne hj']
        exact h.sep i j row' row'' hij hi hj
  kdis := fun i row' hi => by
    by_cases hi' : i = r
    · subst hi'; rw [upd_self]; exact hK
    · rw [upd_ne hi'] at hi ⊢
      exact h.kdis i row' hi
  low := fun i row' hi => by
    by_cases hi' : i = r
    · subst hi'; rw [upd_self]; exact hB
    · rw [upd_ne hi'] at hi ⊢
      exact h.low i row' hi
  okc := fun i row' hi => by
    by_cases hi' : i = r
    · subst hi'
      simp only [upd_self, Option.some.injEq] at hi
      subst hi
      exact ⟨hu, hk⟩
    · rw [upd_ne hi'] at hi
      exact h.okc i row' hi
def putBack (rows0 : Rows) : Rows → List Ln → List (List V) → Option Rows
  | rows, [], [] => some rows
  | rows, ln :: ls, ts :: tss => match rows0 ln.r, rows ln.r with
    | some row0, none => if ts.length = ln.n ∨ row0.cells.length ≤ ln.off + ln.n then putBack rows0 (upd rows ln.r (some ⟨row0.cells.take ln.off ++ ts.map C.own ++ row0.cells.drop (ln.off + ln.n)⟩)) ls tss else none
    | _, _ => none
  | _, _, _ => none
/-- What is kept while the call runs: K, and what is not handed. -/
def keepK (K : FS) (rows0 : Rows) (Fp : Nat → FS) (F : FS) : FS := fun b o => K b o ∨ ∃ r row, rows0 r = some row ∧ Fp r b o ∧ ¬ F b o
theorem putBack_R (hm : Mem S K B rows0 used ρ Fp w) (hsub : S.sub K) {F : FS} (hK' : Same (keepK K rows0 Fp F) w w') (hz : w.heap.size ≤ w'.heap.size) {rows1 : Rows} : ∀ (ls : List (Ln × Nat)) (tss : List (List V)) {cur rows2 : Rows} {D F' : FS} {Fq : Nat → FS}, 
    LentL S w (plOf rows0 ρ) ρ Fp rows0 rows1 F ls → BackL S w' ρ ls tss F' → F'.dis (keepK K rows0 Fp F) → (∀ b o, F' b o → B ≤ b ∧ b < w'.heap.size) → D.dis F' → D.dis (keepK K rows0 Fp F) → MemP S K B cur (plOf rows0 ρ) used ρ Fq w' →
    (∀ j row, cur j = some row → ∃ row0, rows0 j = some row0) → (∀ j row, cur j = some row → ∀ b o, Fq j b o → (Fp j b o ∧ ¬ F b o) ∨ D b o) → putBack rows0 cur (ls.map (·.1)) tss = some rows2 →
    ∃ Fq', MemP S K B rows2 (plOf rows0 ρ) used ρ Fq' w' ∧ (∀ j row, rows2 j = some row → ∃ row0, rows0 j = some row0) ∧ ∀ j row, rows2 j = some row → ∀ b o, Fq' j b o → (Fp j b o ∧ ¬ F b o) ∨ D b o ∨ F' b o
  | [], [], cur, rows2, D, F', Fq, hl, hb, hF, hB, hD, hDK, hM, hc, hq, h => by
    simp only [List.map_nil, putBack, Option.some.injEq] at h
    subst h
    exact ⟨Fq, hM, hc, fun j row hj b o hf => (hq j row hj b o hf).imp id .inl⟩
  | [], _ :: _, cur, rows2, D, F', Fq, hl, hb, hF, hB, hD, hDK, hM, hc, hq, h => by simp [putBack] at h
  | _ :: _, [], cur, rows2, D, F', Fq, hl, hb, hF, hB, hD, hDK, hM, hc, hq, h => by simp [putBack] at h
  | (ln, m) :: ls, ts :: tss, cur, rows2, D, F', Fq, hl, hb, hF, hB, hD, hDK, hM, hc, hq, h => by
    simp only [List.map_cons, putBack] at h
    simp only [BackL] at hb
    obtain ⟨F1, F2, G, b1, b2, b3, b4, b5, b6, b7, b8, b9, b10⟩ := hb
    obtain ⟨⟨row0, l1, l2, l3⟩, l4⟩ := hl
    simp only at l1 l2 l3
    rw [l1] at h
    cases hcur : cur ln.r with
    | some q => rw [hcur] at h; cases h
    | none =>
      rw [hcur] at h
      simp only at h
      split at h
      · rename_i hlen
        obtain ⟨⟨Gb, Ga, r1, r2, r3, r4, r5, r6, r7, r8, r9⟩, rb, ra, rle, rin, rme⟩ := l3
        obtain ⟨_, _, k2, k3, _, _, k6⟩ := hm.row ln.r row0 l1
        have hKr : ∀ b o, Fp ln.r b o → ¬ F b o → keepK K rows0 Fp F b o := fun b o h1 h2 => .inr ⟨ln.r, row0, l1, h1, h2⟩
        have hSs : Same S w w' := hK'.mono (hsub.trans fun b o hk => .inl hk)
        have hGb : Same Gb w w' := hK'.mono fun b o hg => hKr b o (r4 b o hg) (fun hf => r6 b o hg hf)
        have hGa : Same Ga w w' := hK'.mono fun b o hg => hKr b o (r5 b o hg) (fun hf => r7 b o hg hf)
        have hok0 := (hm.okc ln.r row0 l1).2
        have hokt : C.okL used (row0.cells.take ln.off) := okL_iff.2 fun c hcm => okL_iff.1 hok0 c (List.mem_of_mem_take hcm)
        have hokd : C.okL used (row0.cells.drop (ln.off + ln.n)) := okL_iff.2 fun c hcm => okL_iff.1 hok0 c (List.mem_of_mem_drop hcm)
        have hbef : RowR S w' (plOf rows0 ρ) (row0.cells.take ln.off) (ρ ln.r).b (ρ ln.r).o Gb := RowR_mono FS.sub.refl hSs _ (u := used) (fun _ _ _ => id) hokt FS.sub.refl hGb (fun j hj => by
          rw [List.length_take] at hj
          exact (hK' _ _ (hKr _ _ (k3 _ _ ⟨rfl, by omega, by omega⟩) (rb j (by omega)))).1) r1
        have haft : RowR S w' (plOf rows0 ρ) (row0.cells.drop (ln.off + ln.n)) (ρ ln.r).b ((ρ ln.r).o + ln.off + ln.n) Ga := RowR_mono FS.sub.refl hSs _ (u := used) (fun _ _ _ => id) hokd FS.sub.refl hGa (fun j hj => by
          rw [List.length_drop] at hj
          have := (hK' _ _ (hKr _ _ (k3 (ρ ln.r).b ((ρ ln.r).o + (ln.off + ln.n + j)) ⟨rfl, by omega, by omega⟩) (ra _ (by omega) (by omega)))).1
          rwa [show (ρ ln.r).o + (ln.off + ln.n + j) = (ρ ln.r).o + ln.off + ln.n + j by omega] at this) r2
        have hmid : RowR S w' (plOf rows0 ρ) (ts.map C.own) (ρ ln.r).b ((ρ ln.r).o + ln.off) G := CO_RowR ts b1
        have htl : (row0.cells.take ln.off).length = ln.off := by rw [List.length_take]; omega
        have hGG : Gb.dis G := fun b o h1 h2 => hF b o (b9 b o (b4 b o h2)) (hKr b o (r4 b o h1) (fun hf => r6 b o h1 hf))
        have hGaG : Ga.dis G := fun b o h1 h2 => hF b o (b9 b o (b4 b o h2)) (hKr b o (r5 b o h1) (fun hf => r7 b o h1 hf))
        have hrow12 : RowR S w' (plOf rows0 ρ) (row0.cells.take ln.off ++ ts.map C.own) (ρ ln.r).b (ρ ln.r).o (Gb.or G) := RowR_append _ _ hbef (by rw [htl]; exact hmid) hGG
        have hrow : RowR S w' (plOf rows0 ρ) (row0.cells.take ln.off ++ ts.map C.own ++ row0.cells.drop (ln.off + ln.n)) (ρ ln.r).b (ρ ln.r).o ((Gb.or G).or Ga) := by
          refine RowR_append _ _ hrow12 ?_ (FS.or_dis r3 hGaG.symm)
          rw [List.length_append, htl, List.length_map]
          rcases hlen with hlen | hlen
          · rw [hlen, show (ρ ln.r).o + (ln.off + ln.n) = (ρ ln.r).o + ln.off + ln.n by omega]; exact haft
          · rw [List.drop_eq_nil_of_le hlen]; simp only [RowR]
        have hfree : Free w' (ρ ln.r).b (ρ ln.r).o (ρ ln.r).ext := fun j hj => by
          by_cases hjF : F (ρ ln.r).b ((ρ ln.r).o + j)
          · have := rin j hj hjF
            have q := b6 (j - ln.off) (by omega)
            rwa [show (ρ ln.r).o + ln.off + (j - ln.off) = (ρ ln.r).o + j by omega] at q
          · have q := hK' _ _ (hKr (ρ ln.r).b ((ρ ln.r).o + j) (k3 _ _ ⟨rfl, by omega, by omega⟩) hjF)
            rw [q.1, q.2]
            exact k6 j hj
        have hFr : ∀ b o, (ρ ln.r).fs b o → (Fp ln.r b o ∧ ¬ F b o) ∨ F1 b o := fun b o hf => by
          by_cases hbF : F b o
          · right
            obtain ⟨rfl, h2, h3⟩ := hf
            have := rin (o - (ρ ln.r).o) (by omega) (by rwa [show (ρ ln.r).o + (o - (ρ ln.r).o) = o by omega])
            exact b3 _ _ ⟨rfl, by omega, by omega⟩
          · exact .inl ⟨k3 b o hf, hbF⟩
        have hadd := hM.add (r := ln.r) (F := fun b o => (Fp ln.r b o ∧ ¬ F b o) ∨ F1 b o) (G := (Gb.or G).or Ga) (row := ⟨row0.cells.take ln.off ++ ts.map C.own ++ row0.cells.drop (ln.off + ln.n)⟩) hcur hrow (hm.okc ln.r row0 l1).1 (okL_append.2 ⟨okL_append.2 ⟨hokt, okL_own ts⟩, hokd⟩)
          (by
            simp only [List.length_append, htl, List.length_map, List.length_drop]
            rcases hlen with hlen | hlen <;> omega) hFr
          (by
            rintro b o ((hg | hg) | hg)
            · exact .inl ⟨r4 b o hg, fun hf => r6 b o hg hf⟩
            · exact .inr (b4 b o hg)
            · exact .inl ⟨r5 b o hg, fun hf => r7 b o hg hf⟩)
          (by
            rintro b o hf ((hg | hg) | hg)
            · exact r8 b o hf hg
            · by_cases hbF : F b o
              · obtain ⟨rfl, h2, h3⟩ := hf
                have := rin (o - (ρ ln.r).o) (by omega) (by rwa [show (ρ ln.r).o + (o - (ρ ln.r).o) = o by omega])
                exact b5 _ _ ⟨rfl, by omega, by omega⟩ hg
              · exact hF b o (b9 b o (b4 b o hg)) (hKr b o (k3 b o hf) hbF)
            · exact r9 b o hf hg) hfree
          (fun j row' hj b o hx hy => by
            have hne : ln.r ≠ j := by rintro rfl; rw [hcur] at hj; cases hj
            obtain ⟨row1, hj0⟩ := hc j row' hj
            rcases hx with ⟨hx1, hx2⟩ | hx
            · rcases hq j row' hj b o hy with ⟨hy1, _⟩ | hy
              · exact hm.sep ln.r j row0 row1 hne l1 hj0 b o hx1 hy1
              · exact hDK b o hy (hKr b o hx1 hx2)
            · rcases hq j row' hj b o hy with ⟨hy1, hy2⟩ | hy
              · exact hF b o (b9 b o hx) (.inr ⟨j, row1, hj0, hy1, hy2⟩)
              · exact hD b o hy (b9 b o hx))
          (fun b o hx hk => by
            rcases hx with ⟨hx1, _⟩ | hx
            · exact hm.kdis ln.r row0 l1 b o hx1 hk
            · exact hF b o (b9 b o hx) (.inl hk))
          (fun b o hx => by
            rcases hx with ⟨hx1, _⟩ | hx
            · have := hm.low ln.r row0 l1 b o hx1; omega
            · exact hB b o (b9 b o hx))
        obtain ⟨Fq', n1, n2, n3⟩ := putBack_R hm hsub hK' hz ls tss (cur := upd cur ln.r (some ⟨row0.cells.take ln.off ++ ts.map C.own ++ row0.cells.drop (ln.off + ln.n)⟩)) (D := D.or F1) (F' := F2) l4 b7 (hF.mono b10 FS.sub.refl) (fun b o hf => hB b o (b10 b o hf)) (FS.or_dis (hD.mono FS.sub.refl b10) b8) (FS.or_dis hDK (hF.mono b9 FS.sub.refl)) hadd
          (fun j row' hj => by
            by_cases e : j = ln.r
            · subst e; exact ⟨row0, l1⟩
            · rw [upd_ne e] at hj; exact hc j row' hj)
          (fun j row' hj b o hf => by
            by_cases e : j = ln.r
            · subst e
              rw [upd_self] at hf
              exact hf.imp id .inr
            · rw [upd_ne e] at hj hf
              exact (hq j row' hj b o hf).imp id .inl) h
        refine ⟨Fq', n1, n2, fun j row' hj b o hf => ?_⟩
        rcases n3 j row' hj b o hf with h | (h | h) | h
        · exact .inl h
        · exact .inr (.inl h)
        · exact .inr (.inr (b9 b o h))
        · exact .inr (.inr (b10 b o h))
      · cases h
end
end Go.Eng
namespace Go.Eng
open Go.RowKit (Below)
def prepL (fuel : Nat) : Rows → List (C × Mode) → Option (List (Option V) × Rows)
  | rows, [] => some ([], rows)
  | rows, (_, .ro) :: r => (prepL fuel rows r).map fun q => (none :: q.1, q.2)
  | rows, (c, .io pn) :: r => match lendC fuel pn rows c with
    | some (t, rows1) => (prepL fuel rows1 r).map fun q => (some t :: q.1, q.2)
    | none => none
  | rows, (c, .own) :: r => match clo fuel rows c with
    | some (t, rows1) => (prepL fuel rows1 r).map fun q => (some t :: q.1, q.2)
    | none => none
def finL (fuel : Nat) (rows1 : Rows) : List (C × Mode) → List (Option V) → Option (List Arg)
  | [], [] => some []
  | (c, .ro) :: r, none :: os => match snap rows1 fuel c, finL fuel rows1 r os with
    | some t, some as => some (.ro t :: as)
    | _, _ => none
  | (_, .io _) :: r, some t :: os => (finL fuel rows1 r os).map (.io t :: ·)
  | (_, .own) :: r, some t :: os => (finL fuel rows1 r os).map (.own t :: ·)
  | _, _ => none
def lnAll (rows0 : Rows) : List (C × Mode) → List Value → List (Ln × Nat)
  | (c, .io pn) :: r, x :: xs => lnC rows0 pn c x ++ lnAll rows0 r xs
  | _ :: r, _ :: xs => lnAll rows0 r xs
  | _, _ => []
def bkAll (rows0 : Rows) : List (C × Mode) → List V → Option (List (List V))
  | (c, .io pn) :: r, t :: ts => match bkC rows0 pn c t, bkAll rows0 r ts with
    | some l, some ls => some (l ++ ls)
    | _, _ => none
  | (_, .ro) :: r, ts => bkAll rows0 r ts
  | (_, .own) :: r, ts => bkAll rows0 r ts
  | [], [] => some []
  | _, _ => none
def lnsLeaf (rows0 : Rows) (pn : Option Nat) : C → List Ln
  | .sr r off _ _ => match rows0 r with
    | some row => [⟨r, off, row.cells.length - off⟩]
    | none => []
  | .pr r off => match rows0 r with
    | some row => [⟨r, off, pn.getD (row.cells.length - off)⟩]
    | none => []
  | _ => []
def lnsC (rows0 : Rows) (pn : Option Nat) : C → List Ln
  | .ag cs => cs.flatMap (lnsLeaf rows0 none)
  | .fn _ cs => cs.flatMap (lnsLeaf rows0 none)
  | c => lnsLeaf rows0 pn c
def lnsAll (rows0 : Rows) : List (C × Mode) → List Ln
  | (c, .io pn) :: r => lnsC rows0 pn c ++ lnsAll rows0 r
  | _ :: r => lnsAll rows0 r
  | [] => []
mutual
def noIm : V → Bool
  | .sc _ => true
  | .im _ => false
  | .sl _ _ cs | .bx cs | .ag cs | .tp cs | .fn _ cs => noImL cs
def noImL : List V → Bool
  | [] => true
  | t :: ts => noIm t && noImL ts
end
/-- Is each argument that is read alone one that nobody writes? -/
def allV : List C → Bool
  | [] => true
  | .v _ :: r => allV r
  | _ :: _ => false
def immC : C → Bool
  | .v _ => true
  | .ag cs => allV cs
  | _ => false
def allImm : List (C × Mode) → Bool
  | (c, .ro) :: r => immC c && allImm r
  | _ :: r => allImm r
  | [] => true
def enterable (P : Program) (f : FuncId) : Bool := match P.funcs[f]? with
  | some fn => fn.name != "runtime.NumGoroutine" && fn.body.isSome
  | none => false
section
variable {P : Program} {X : Ctx} {o : Oper} {st st' : St} {a : Act} {w w' : World} {S S' K : FS} {B : Nat} {pl : Nat → Option Pl} {used : Nat → Bool} {rows0 : Rows} {ρ : Nat → Pl} {Fp : Nat → FS}
mutual
theorem VO_noIm : ∀ (t : V) {x : Value} {F : FS}, noIm t = true → VO S w t x F → VO S' w t x F
  | .sc _, _, _, _, h => by simpa only [VO] using h
  | .im t, _, _, hn, _ => by simp [noIm] at hn
  | .sl _ _ cs, _, F, hn, h => by
    simp only [noIm] at hn
    simp only [VO] at h ⊢
    obtain ⟨a, cap, hx, hl, h⟩ := h
    exact ⟨a, cap, hx, hl, h.imp id (fun ⟨b, o, G, ha, hn', hc, h1, h2, h3, h4⟩ => ⟨b, o, G, ha, hn', CO_noIm cs hn hc, h1, h2, h3, h4⟩)⟩
  | .bx cs, _, F, hn, h => by
    simp only [noIm] at hn
    simp only [VO] at h ⊢
    obtain ⟨b, o, G, ha, hc, h1, h2, h3, h4⟩ := h
    exact ⟨b, o, G, ha, CO_noIm cs hn hc, h1, h2, h3, h4⟩
  | .ag cs, _, F, hn, h => by
    simp only [noIm] at hn
    simp only [VO] at h ⊢
    obtain ⟨vs, hx, hc⟩ := h
    exact ⟨vs, hx, LO_noIm cs hn hc⟩
  | .tp cs, _, F, hn, h => by
    simp only [noIm] at hn
    simp only [VO] at h ⊢
    obtain ⟨vs, hx, hc⟩ := h
    exact ⟨vs, hx, LO_noIm cs hn hc⟩
  | .fn _ cs, _, F, hn, h => by
    simp only [noIm] at hn
    simp only [VO] at h ⊢
    obtain ⟨vs, hx, hc⟩ := h
    exact ⟨vs, hx, LO_noIm cs hn hc⟩
theorem CO_noIm : ∀ (cs : List V) {b o : Nat} {G : FS}, noImL cs = true → CO S w cs b o G → CO S' w cs b o G
  | [], _, _, _, _, _ => by simp only [CO]
  | t :: ts, b, o, G, hn, h => by
    simp only [noImL, Bool.and_eq_true] at hn
    simp only [CO] at h ⊢
    obtain ⟨x, G1, G2, h1, h2, h3, h4, h5, h6⟩ := h
    exact ⟨x, G1, G2, h1, VO_noIm t hn.1 h2, CO_noIm ts hn.2 h3, h4, h5, h6⟩
theorem LO_noIm : ∀ (cs : List V) {vs : List Value} {F : FS}, noImL cs = true → LO S w cs vs F → LO S' w cs vs F
  | [], _, _, _, h => by simpa only [LO] using h
  | t :: ts, _, F, hn, h => by
    simp only [noImL, Bool.and_eq_true] at hn
    simp only [LO] at h ⊢
    obtain ⟨x, xs, F1, F2, h1, h2, h3, h4, h5, h6⟩ := h
    exact ⟨x, xs, F1, F2, h1, VO_noIm t hn.1 h2, LO_noIm ts hn.2 h3, h4, h5, h6⟩
end
theorem prep_R (hm : Mem S K B rows0 used ρ Fp w) (hS : S.sub S') {fuel : Nat} {rowsF : Rows} : ∀ (cms : List (C × Mode)) {rows rows' : Rows} {vs : List Value} {os : List (Option V)} {args : List Arg}, Subr rows rows0 → CRL S w (plOf rows0 ρ) (cms.map (·.1)) vs → prepL fuel rows cms = some (os, rows') → finL fuel rowsF cms os = some args →
    (∀ c x t, (c, Mode.ro) ∈ cms → CR S w (plOf rows0 ρ) c x → snap rowsF fuel c = some t → VI S' w t x) →
    Subr rows' rows ∧ ∃ F, LO S' w (args.map Arg.tree) vs F ∧ F.sub (gone rows rows' Fp) ∧ LentL S w (plOf rows0 ρ) ρ Fp rows rows' F (lnAll rows0 cms vs)
  | [], rows, rows', vs, os, args, h0, hc, hp, hf, hro => by
    simp only [prepL, Option.some.injEq, Prod.mk.injEq] at hp
    obtain ⟨rfl, rfl⟩ := hp
    simp only [finL, Option.some.injEq] at hf
    subst hf
    simp only [List.map_nil, CRL] at hc
    subst hc
    exact ⟨fun _ _ => id, FS.none, by simp only [List.map_nil, LO], FS.none_sub, by simp only [lnAll, LentL]⟩
  | (c, .ro) :: r, rows, rows', vs, os, args, h0, hc, hp, hf, hro => by
    simp only [prepL, Option.map_eq_some_iff] at hp
    obtain ⟨⟨os', rows1⟩, h1, h2⟩ := hp
    simp only [Prod.mk.injEq] at h2
    obtain ⟨rfl, rfl⟩ := h2
    simp only [finL] at hf
    split at hf
    · rename_i t as h3 h4
      simp only [Option.some.injEq] at hf
      subst hf
      simp only [List.map_cons, CRL] at hc
      obtain ⟨x, xs, rfl, k2, k3⟩ := hc
      obtain ⟨f1, F, f2, f3, f4⟩ := prep_R hm hS r h0 k3 h1 h4 (fun c x t hmem => hro c x t (List.mem_cons_of_mem _ hmem))
      refine ⟨f1, F, ?_, f3, by simp only [lnAll]; exact f4⟩
      simp only [List.map_cons, LO, Arg.tree]
      exact ⟨x, xs, FS.none, F, rfl, by simp only [VO]; exact hro c x t List.mem_cons_self k2 h3, f2, FS.none_dis, FS.none_sub, FS.sub.refl⟩
    · cases hf
  | (c, .io pn) :: r, rows, rows', vs, os, args, h0, hc, hp, hf, hro => by
    simp only [prepL] at hp
    split at hp
    · rename_i t rows1 h1
      simp only [Option.map_eq_some_iff] at hp
      obtain ⟨⟨os', rows2⟩, h2, h3⟩ := hp
      simp only [Prod.mk.injEq] at h3
      obtain ⟨rfl, rfl⟩ := h3
      simp only [finL, Option.map_eq_some_iff] at hf
      obtain ⟨as, h4, rfl⟩ := hf
      simp only [List.map_cons, CRL] at hc
      obtain ⟨x, xs, rfl, k2, k3⟩ := hc
      obtain ⟨e1, F1, e2, e3, e4⟩ := lendC_R hm h0 k2 h1
      obtain ⟨f1, F2, f2, f3, f4⟩ := prep_R hm hS r (fun r row hr => h0 r row (e1 r row hr)) k3 h2 h4 (fun c x t hmem => hro c x t (List.mem_cons_of_mem _ hmem))
      refine ⟨fun r row hr => e1 r row (f1 r row hr), F1.or F2, ?_, ?_, ?_⟩
      · simp only [List.map_cons, LO, Arg.tree]
        exact ⟨x, xs, F1, F2, rfl, VO_mono hS Same.refl _ FS.sub.refl Same.refl e2, f2, gone_dis hm h0 e1 FS.none_dis (fun _ _ _ => FS.none_dis) (fun _ _ _ => FS.none_dis) (e3.trans FS.sub_or_right) (f3.trans FS.sub_or_right), FS.sub_or_left, FS.sub_or_right⟩
      · exact FS.or_sub (e3.trans (gone_mono e1 f1).1) (f3.trans (gone_mono e1 f1).2)
      · simp only [lnAll]
        refine LentL_append ?_ ?_
        · refine LentL_mono hm h0 (fun _ _ => id) (fun r row hr hr2 => subr_none f1 hr2) (fun r row hr hr2 b o hf => ?_) e4
          exact hf.imp id (fun hf => gone_apart hm h0 e1 hr hr2 (f3 b o hf))
        · refine LentL_mono hm h0 e1 (fun _ _ _ => id) (fun r row hr hr2 b o hf => ?_) f4
          rcases hf with hf | hf
          · exact .inr (gone_apart' hm h0 (e1 r row hr) hr (e3 b o hf))
          · exact .inl hf
    · cases hp
  | (c, .own) :: r, rows, rows', vs, os, args, h0, hc, hp, hf, hro => by
    simp only [prepL] at hp
    split at hp
    · rename_i t rows1 h1
      simp only [Option.map_eq_some_iff] at hp
      obtain ⟨⟨os', rows2⟩, h2, h3⟩ := hp
      simp only [Prod.mk.injEq] at h3
      obtain ⟨rfl, rfl⟩ := h3
      simp only [finL, Option.map_eq_some_iff] at hf
      obtain ⟨as, h4, rfl⟩ := hf
      simp only [List.map_cons, CRL] at hc
      obtain ⟨x, xs, rfl, k2, k3⟩ := hc
      obtain ⟨e1, F1, e2, e3⟩ := clo_OK hm fuel rows c x FS.none t rows1 h0 (CR_CellR k2) (fun _ _ _ => FS.none_dis) h1
      have e3' : F1.sub (gone rows rows1 Fp) := e3.trans (FS.or_sub FS.none_sub FS.sub.refl)
      obtain ⟨f1, F2, f2, f3, f4⟩ := prep_R hm hS r (fun r row hr => h0 r row (e1 r row hr)) k3 h2 h4 (fun c x t hmem => hro c x t (List.mem_cons_of_mem _ hmem))
      refine ⟨fun r row hr => e1 r row (f1 r row hr), F1.or F2, ?_, ?_, ?_⟩
      · simp only [List.map_cons, LO, Arg.tree]
        exact ⟨x, xs, F1, F2, rfl, VO_mono hS Same.refl _ FS.sub.refl Same.refl e2, f2, gone_dis hm h0 e1 FS.none_dis (fun _ _ _ => FS.none_dis) (fun _ _ _ => FS.none_dis) e3 (f3.trans FS.sub_or_right), FS.sub_or_left, FS.sub_or_right⟩
      · exact FS.or_sub (e3'.trans (gone_mono e1 f1).1) (f3.trans (gone_mono e1 f1).2)
      · simp only [lnAll]
        refine LentL_mono hm h0 e1 (fun _ _ _ => id) (fun r row hr hr2 b o hf => ?_) f4
        rcases hf with hf | hf
        · exact .inr (gone_apart' hm h0 (e1 r row hr) hr (e3' b o hf))
        · exact .inl hf
    · cases hp
theorem back_R {fuel : Nat} {rowsF : Rows} : ∀ (cms : List (C × Mode)) {vs : List Value} {os : List (Option V)} {args : List Arg} {outs : List V} {res : V} {x : Value} {F' : FS} {tss : List (List V)}, CRL S w (plOf rows0 ρ) (cms.map (·.1)) vs → finL fuel rowsF cms os = some args → LO S' w' (outs ++ [res]) (ioVals args vs ++ [x]) F' → bkAll rows0 cms outs = some tss →
    ∃ F1 F2, BackL S' w' ρ (lnAll rows0 cms vs) tss F1 ∧ VO S' w' res x F2 ∧ F1.dis F2 ∧ F1.sub F' ∧ F2.sub F'
  | [], vs, os, args, outs, res, x, F', tss, hc, hf, hl, hb => by
    cases os with
    | cons o os => simp [finL] at hf
    | nil =>
      simp only [finL, Option.some.injEq] at hf
      subst hf
      cases outs with
      | cons t ts => simp [bkAll] at hb
      | nil =>
        simp only [bkAll, Option.some.injEq] at hb
        subst hb
        simp only [List.map_nil, CRL] at hc
        subst hc
        simp only [ioVals, List.nil_append, LO] at hl
        obtain ⟨x', xs, F1, F2, h1, h2, h3, h4, h5, h6⟩ := hl
        simp only [List.cons.injEq] at h1
        obtain ⟨rfl, rfl⟩ := h1
        exact ⟨FS.none, F1, by simp only [lnAll, BackL], h2, FS.none_dis, FS.none_sub, h5⟩
  | (c, .ro) :: r, vs, os, args, outs, res, x, F', tss, hc, hf, hl, hb => by
    simp only [List.map_cons, CRL] at hc
    obtain ⟨y, ys, rfl, k2, k3⟩ := hc
    cases os with
    | nil => simp [finL] at hf
    | cons o os =>
      cases o with
      | some t => simp [finL] at hf
      | none =>
        simp only [finL] at hf
        split at hf
        · rename_i t as h3 h4
          simp only [Option.some.injEq] at hf
          subst hf
          simp only [ioVals] at hl
          simp only [bkAll] at hb
          simp only [lnAll]
          exact back_R r k3 h4 hl hb
        · cases hf
  | (c, .own) :: r, vs, os, args, outs, res, x, F', tss, hc, hf, hl, hb => by
    simp only [List.map_cons, CRL] at hc
    obtain ⟨y, ys, rfl, k2, k3⟩ := hc
    cases os with
    | nil => simp [finL] at hf
    | cons o os =>
      cases o with
      | none => simp [finL] at hf
      | some t =>
        simp only [finL, Option.map_eq_some_iff] at hf
        obtain ⟨as, h4, rfl⟩ := hf
        simp only [ioVals] at hl
        simp only [bkAll] at hb
        simp only [lnAll]
        exact back_R r k3 h4 hl hb
  | (c, .io pn) :: r, vs, os, args, outs, res, x, F', tss, hc, hf, hl, hb => by
    simp only [List.map_cons, CRL] at hc
    obtain ⟨y, ys, rfl, k2, k3⟩ := hc
    cases os with
    | nil => simp [finL] at hf
    | cons o os =>
      cases o with
      | none => simp [finL] at hf
      | some t =>
        simp only [finL, Option.map_eq_some_iff] at hf
        obtain ⟨as, h4, rfl⟩ := hf
        cases outs with
        | nil => simp [bkAll] at hb
        | cons t' ts =>
          simp only [bkAll] at hb
          split at hb
          · rename_i l ls h5 h6
            simp only [Option.some.injEq] at hb
            subst hb
            simp only [ioVals, List.cons_append, LO] at hl
            obtain ⟨x', xs, G1, G2, e1, e2, e3, e4, e5, e6⟩ := hl
            simp only [List.cons.injEq] at e1
            obtain ⟨rfl, rfl⟩ := e1
            obtain ⟨F1, F2, f1, f2, f3, f4, f5⟩ := back_R r k3 h4 e3 h6
            simp only [lnAll]
            refine ⟨G1.or F1, F2, BackL_append (bkC_R k2 e2 h5) f1 (e4.mono FS.sub.refl f4), f2, FS.or_dis (e4.mono FS.sub.refl f5) f3, FS.or_sub e5 (f4.trans e6), f5.trans e6⟩
          · cases hb
theorem lnLeaf_map {pn : Option Nat} {c : C} {y : Value} (hc : CR S w pl c y) : (lnLeaf rows0 pn c y).map (·.1) = lnsLeaf rows0 pn c := by
  cases c with
  | sr r off E len =>
    simp only [CR] at hc
    obtain ⟨ad, cap, rfl, _⟩ := hc
    simp only [lnLeaf, lnsLeaf]
    cases rows0 r <;> rfl
  | pr r off =>
    simp only [lnLeaf, lnsLeaf]
    cases rows0 r <;> rfl
  | v t => cases t <;> rfl
  | own t => rfl
  | ag cs => rfl
  | tp cs => rfl
  | fn f cs => rfl
  | dead => rfl
theorem lnL_map : ∀ {cs : List C} {vs : List Value}, CRL S w pl cs vs → (lnL rows0 cs vs).map (·.1) = cs.flatMap (lnsLeaf rows0 none)
  | [], vs, h => by simp only [CRL] at h; subst h; rfl
  | c :: cs, vs, h => by
    simp only [CRL] at h
    obtain ⟨x, xs, rfl, h2, h3⟩ := h
    simp only [lnL, List.map_append, List.flatMap_cons, lnLeaf_map h2, lnL_map h3]
theorem lnC_map {pn : Option Nat} {c : C} {y : Value} (hc : CR S w pl c y) : (lnC rows0 pn c y).map (·.1) = lnsC rows0 pn c := by
  cases c with
  | ag cs => simp only [CR] at hc; obtain ⟨vs, rfl, h⟩ := hc; exact lnL_map h
  | fn f cs => simp only [CR] at hc; obtain ⟨vs, rfl, h⟩ := hc; exact lnL_map h
  | v t => exact lnLeaf_map (rows0 := rows0) (pn := pn) hc
  | own t => exact lnLeaf_map (rows0 := rows0) (pn := pn) hc
  | sr r off E len => exact lnLeaf_map (rows0 := rows0) (pn := pn) hc
  | pr r off => exact lnLeaf_map (rows0 := rows0) (pn := pn) hc
  | tp cs => exact lnLeaf_map (rows0 := rows0) (pn := pn) hc
  | dead => exact lnLeaf_map (rows0 := rows0) (pn := pn) hc
theorem lnAll_map : ∀ {cms : List (C × Mode)} {vs : List Value}, CRL S w pl (cms.map (·.1)) vs → (lnAll rows0 cms vs).map (·.1) = lnsAll rows0 cms
  | [], vs, h => by simp only [List.map_nil, CRL] at h; subst h; rfl
  | (c, m) :: r, vs, h => by
    simp only [List.map_cons, CRL] at h
    obtain ⟨x, xs, rfl, h2, h3⟩ := h
    cases m with
    | ro => simp only [lnAll, lnsAll]; exact lnAll_map h3
    | own => simp only [lnAll, lnsAll]; exact lnAll_map h3
    | io pn => simp only [lnAll, lnsAll, List.map_append, lnC_map h2, lnAll_map h3]
end
end Go.Eng
