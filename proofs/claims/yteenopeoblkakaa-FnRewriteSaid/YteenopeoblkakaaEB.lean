/-
  The engine: how a function's code, run by the model, is followed step by step over told memory. It holds of every program; it has no conditions.
-/
import Derived.Test.YteenopeoblkakaaEA
import Derived.Scope
set_option linter.unusedVariables false
set_option linter.unusedSimpArgs false
set_option linter.unnecessarySimpa false
namespace Go.Eng
open Go.RowKit (Below)
/-- What a call turns. -/
structure CallR (st : St) (fuel : Nat) (cms : List (C × Mode)) (args : List Arg) (outs : List V) (res : V) (base : Nat) (rows2 : Rows) : Prop where
  ex : ∃ os rows1 tss, prepL fuel st.rows cms = some (os, rows1) ∧ finL fuel rows1 cms os = some args ∧ bkAll st.rows cms outs = some tss ∧ putBack st.rows rows1 (lnsAll st.rows cms) tss = some rows2
  im : allImm cms = true ∨ (noImL outs && noIm res) = true
  fresh : ∀ j, base ≤ j → j < base + (mat res base).2.length → st.used j = false
section
variable {P : Program} {X : Ctx} {o : Oper} {st st' : St} {a : Act} {w w' : World} {S S' K : FS} {B : Nat} {pl : Nat → Option Pl} {used : Nat → Bool} {rows0 : Rows} {ρ : Nat → Pl} {Fp : Nat → FS}
theorem allImm_v : ∀ {cms : List (C × Mode)} {c : C}, allImm cms = true → (c, Mode.ro) ∈ cms → immC c = true
  | [], _, _, h => by simp at h
  | (d, .ro) :: r, c, h, hm => by
    simp only [allImm, Bool.and_eq_true] at h
    rcases List.mem_cons.1 hm with e | e
    · simp only [Prod.mk.injEq, and_true] at e; rw [e]; exact h.1
    · exact allImm_v h.2 e
  | (d, .io pn) :: r, c, h, hm => by
    rcases List.mem_cons.1 hm with e | e
    · simp at e
    · exact allImm_v (cms := r) (by simpa only [allImm] using h) e
  | (d, .own) :: r, c, h, hm => by
    rcases List.mem_cons.1 hm with e | e
    · simp at e
    · exact allImm_v (cms := r) (by simpa only [allImm] using h) e
theorem allV_snap {pl : Nat → Option Pl} {rows : Rows} {n : Nat} : ∀ {cs : List C} {vs : List Value} {q : List V}, allV cs = true → CRL S w pl cs vs → mapSnap (snap rows n) cs = some q → LI S w q vs
  | [], vs, q, h, hc, hs => by
    simp only [CRL] at hc
    simp only [mapSnap, Option.some.injEq] at hs
    subst hs hc
    simp only [LI]
  | c :: cs, vs, q, h, hc, hs => by
    cases c with
    | v t =>
      simp only [allV] at h
      simp only [CRL] at hc
      obtain ⟨x, xs, rfl, h1, h2⟩ := hc
      simp only [mapSnap] at hs
      cases n with
      | zero => simp [snap] at hs
      | succ n =>
        split at hs
        · rename_i t' ts g1 g2
          simp only [snap, Option.some.injEq] at g1
          subst g1
          cases hs
          simp only [LI, CR] at h1 ⊢
          exact ⟨x, xs, rfl, h1, allV_snap h h2 g2⟩
        · cases hs
    | _ => simp [allV] at h
theorem imm_snap {pl : Nat → Option Pl} {rows : Rows} {fuel : Nat} {c : C} {x : Value} {t : V} (h : immC c = true) (hc : CR S w pl c x) (hs : snap rows fuel c = some t) : VI S w t x := by
  cases fuel with
  | zero => simp [snap] at hs
  | succ n =>
    cases c with
    | v u =>
      simp only [snap, Option.some.injEq] at hs
      subst hs
      simpa only [CR] using hc
    | ag cs =>
      simp only [snap, Option.map_eq_some_iff] at hs
      obtain ⟨q, h1, rfl⟩ := hs
      simp only [CR] at hc
      obtain ⟨vs, rfl, h2⟩ := hc
      simp only [VI]
      exact ⟨vs, rfl, allV_snap h h2 h1⟩
    | _ => simp [immC] at h
theorem noImL_append : ∀ {ts us : List V}, noImL (ts ++ us) = (noImL ts && noImL us)
  | [], us => by simp [noImL]
  | t :: ts, us => by simp only [List.cons_append, noImL, noImL_append, Bool.and_assoc]
theorem prepL_sub (hm : Mem S K B rows0 used ρ Fp w) {fuel : Nat} : ∀ (cms : List (C × Mode)) {rows rows' : Rows} {os : List (Option V)} {vs : List Value}, Subr rows rows0 → CRL S w (plOf rows0 ρ) (cms.map (·.1)) vs → prepL fuel rows cms = some (os, rows') → Subr rows' rows
  | [], rows, rows', os, vs, h0, hc, hp => by
    simp only [prepL, Option.some.injEq, Prod.mk.injEq] at hp
    obtain ⟨_, rfl⟩ := hp
    exact fun _ _ => id
  | (c, md) :: r, rows, rows', os, vs, h0, hc, hp => by
    simp only [List.map_cons, CRL] at hc
    obtain ⟨y, ys, rfl, k2, k3⟩ := hc
    cases md with
    | ro =>
      simp only [prepL, Option.map_eq_some_iff, Prod.mk.injEq] at hp
      obtain ⟨⟨os', rows''⟩, h1, _, rfl⟩ := hp
      exact prepL_sub hm r h0 k3 h1
    | io pn =>
      simp only [prepL] at hp
      split at hp
      · rename_i t rows'' h1
        simp only [Option.map_eq_some_iff, Prod.mk.injEq] at hp
        obtain ⟨⟨os', rows3⟩, h2, _, rfl⟩ := hp
        obtain ⟨e1, _⟩ := lendC_R hm h0 k2 h1
        have := prepL_sub hm r (fun r row hr => h0 r row (e1 r row hr)) k3 h2
        exact fun r row hr => e1 r row (this r row hr)
      · cases hp
    | own =>
      simp only [prepL] at hp
      split at hp
      · rename_i t rows'' h1
        simp only [Option.map_eq_some_iff, Prod.mk.injEq] at hp
        obtain ⟨⟨os', rows3⟩, h2, _, rfl⟩ := hp
        obtain ⟨e1, _⟩ := clo_OK hm fuel rows c y FS.none t rows'' h0 (CR_CellR k2) (fun _ _ _ => FS.none_dis) h1
        have := prepL_sub hm r (fun r row hr => h0 r row (e1 r row hr)) k3 h2
        exact fun r row hr => e1 r row (this r row hr)
      · cases hp
theorem goes_call_core (h : R X st a w) {f : FuncId} {vs : Array Value} {cms : List (C × Mode)} {fuel : Nat} {args : List Arg} {outs : List V} {res : V} {base : Nat} {rows2 : Rows} (hexec : (execOp a.eval o).run P w = .ok (.enter f vs) w)
    (hvs : ∀ ρ Fp, Mem X.S X.K X.B st.rows st.used ρ Fp w → Env X.S w (plOf st.rows ρ) st.used st X.av a → CRL X.S w (plOf st.rows ρ) (cms.map (·.1)) vs.toList) (hcon : Contract P f args outs res) (hcr : CallR st fuel cms args outs res base rows2) (hd : st.fits o.dst) :
    Goes P X o a w { st.put o.dst (mat res base).1 with rows := addRows rows2 base (mat res base).2, used := addUsed st.used base (mat res base).2 } := by
  intro Q
  obtain ⟨⟨os, rows1, tss, p1, p2, p3, p4⟩, him, hfr⟩ := hcr
  obtain ⟨ρ, Fp, hm, he⟩ := h.mem
  have hc := hvs ρ Fp hm he
  have hsub1 : Subr rows1 st.rows := prepL_sub hm cms (fun _ _ => id) hc p1
  -- the set of what the callee may read: what nobody writes, or all that is not handed
  obtain ⟨S', hS', hS2, hro, hback⟩ : ∃ S' : FS, X.S.sub S' ∧ S'.sub (X.S.or fun b o => ∃ r row, rows1 r = some row ∧ Fp r b o) ∧ (∀ c x t, (c, Mode.ro) ∈ cms → CR X.S w (plOf st.rows ρ) c x → snap rows1 fuel c = some t → VI S' w t x) ∧ ∀ w' vs F', LO S' w' (outs ++ [res]) vs F' → LO X.S w' (outs ++ [res]) vs F' := by
    rcases him with him | him
    · refine ⟨X.S, FS.sub.refl, FS.sub_or_left, fun c x t hmem hcr hs => ?_, fun _ _ _ => id⟩
      exact imm_snap (allImm_v him hmem) hcr hs
    · refine ⟨_, FS.sub_or_left, FS.sub.refl, fun c x t hmem hcr hs => ?_, fun w' vs F' hl => LO_noIm _ ?_ hl⟩
      · exact snap_OK hm hsub1 (S' := X.S.or fun b o => ∃ r row, rows1 r = some row ∧ Fp r b o) FS.sub_or_left (fun r row hr b o hf => .inr ⟨r, row, hr, hf⟩) fuel c x FS.none t (CR_CellR hcr) FS.none_sub hs
      · simp only [Bool.and_eq_true] at him
        rw [noImL_append, him.1]
        simp only [noImL, him.2, Bool.and_self]
  obtain ⟨_, F, a2, a3, a4⟩ := prep_R hm hS' cms (fun _ _ => id) hc p1 p2 hro
  have hlive : ∀ r row, rows1 r = some row → (Fp r).sub (keepK X.K st.rows Fp F) := fun r row hr b o hf => .inr ⟨r, row, hsub1 r row hr, hf, fun hF => by
    obtain ⟨j, row', g1, g2, g3⟩ := a3 b o hF
    have hne : j ≠ r := by rintro rfl; rw [g2] at hr; cases hr
    exact hm.sep j r row' row hne g1 (hsub1 r row hr) b o g3 hf⟩
  have hSK : S'.sub (keepK X.K st.rows Fp F) := hS2.trans (FS.or_sub (h.hsub.trans fun b o hk => .inl hk) fun b o ⟨r, row, hr, hf⟩ => hlive r row hr b o hf)
  have hKlt : ∀ b o, keepK X.K st.rows Fp F b o → b < w.heap.size := fun b o hk => by
    rcases hk with hk | ⟨r, row, hr, hf, _⟩
    · exact h.heap.2 b o hk
    · exact (hm.low r row hr b o hf).2
  have hFK : F.dis (keepK X.K st.rows Fp F) := fun b o hF hk => by
    rcases hk with hk | ⟨r, row, hr, _, hnf⟩
    · obtain ⟨j, row', g1, g2, g3⟩ := a3 b o hF
      exact hm.kdis j row' g1 b o g3 hk
    · exact hnf hF
  have hFl : ∀ b o, F b o → X.B ≤ b ∧ b < w.heap.size := fun b o hF => by
    obtain ⟨j, row', g1, g2, g3⟩ := a3 b o hF
    exact hm.low j row' g1 b o g3
  unfold Oper.wp
  rw [hexec]
  simp only [Oper.upon_enter]
  refine (hcon S' (keepK X.K st.rows Fp F) X.B w vs F hSK hKlt h.heap.1 a2 hFK hFl).mono ?_
  rintro e w' ⟨x, F', rfl, b1, b2, b3, b4, b5⟩
  simp only
  have b1' := hback _ _ _ b1
  obtain ⟨F1, F2, c1, c2, c3, c4, c5⟩ := back_R (w := w) (ρ := ρ) (rows0 := st.rows) cms hc p2 b1' p3
  have hSs : Same X.S w w' := b5.mono (h.hsub.trans fun b o hk => .inl hk)
  have hMP : MemP X.S X.K X.B rows1 (plOf st.rows ρ) st.used ρ Fp w' := by
    refine ⟨fun r row hr => ?_, fun r r' row row' hne hr hr' => hm.sep r r' row row' hne (hsub1 r row hr) (hsub1 r' row' hr'), fun r row hr => hm.kdis r row (hsub1 r row hr), fun r row hr b o hf => ?_, fun r row hr => hm.okc r row (hsub1 r row hr)⟩
    · obtain ⟨G, k1, k2, k3, k4, k5, k6⟩ := hm.row r row (hsub1 r row hr)
      have hFs := b5.mono (hlive r row hr)
      have hcs := hFs.mono k3
      exact ⟨G, RowR_mono FS.sub.refl hSs _ (u := st.used) (fun _ _ _ => id) (hm.okc r row (hsub1 r row hr)).2 FS.sub.refl (hFs.mono k4) (fun i hi => (hcs _ _ ⟨rfl, by omega, by omega⟩).1) k1, k2, k3, k4, k5, k6.same FS.sub.refl hcs⟩
    · have := hm.low r row (hsub1 r row hr) b o hf
      exact ⟨this.1, Nat.lt_of_lt_of_le this.2 b4.size⟩
  obtain ⟨Fq, d1, d2, d3⟩ := putBack_R hm h.hsub b5 b4.size (lnAll st.rows cms vs.toList) tss (D := FS.none) (F' := F1) (Fq := Fp) a4 c1 (b2.mono c4 FS.sub.refl) (fun b o hf => b3 b o (c4 b o hf)) FS.none_dis FS.none_dis hMP (fun j row hj => ⟨row, hsub1 j row hj⟩) (fun j row hj b o hf => .inl ⟨hf, fun hF => hFK b o hF (hlive j row hj b o hf)⟩) (by rw [lnAll_map hc]; exact p4)
  have hpl2 : ∀ r p, plOf rows2 ρ r = some p → plOf st.rows ρ r = some p := fun r p hp => by
    unfold plOf at hp ⊢
    cases hq : rows2 r with
    | none => rw [hq] at hp; cases hp
    | some row =>
      rw [hq] at hp
      obtain ⟨row0, e⟩ := d2 r row hq
      rw [e]
      exact hp
  have hM2 : Mem X.S X.K X.B rows2 st.used ρ Fq w' := d1.mem hpl2
  obtain ⟨ρ', Fp', m1, m2, m3⟩ := mat_R res base hM2 c2 (fun r row hr b o h1 h2 => by
      rcases d3 r row hr b o h2 with ⟨h3, h4⟩ | h3 | h3
      · obtain ⟨row0, e⟩ := d2 r row hr
        exact b2 b o (c5 b o h1) (.inr ⟨r, row0, e, h3, h4⟩)
      · exact h3
      · exact c3 b o h3 h1) (b2.mono c5 fun b o hk => .inl hk) (fun b o hf => b3 b o (c5 b o hf)) hfr
  exact h.step he hd b4 (b5.mono fun b o hk => .inl hk) m1.mem (fun r p hu hp => hpl2 r p (m1.mono r p hu hp)) m1.usd m2 m3
/-- A call of a function, or of a closure. -/
theorem goes_call (h : R X st a w) {call : Call} {fo : Operand} {f : FuncId} {caps cs : List C} {modes : List Mode} {fuel : Nat} {args : List Arg} {outs : List V} {res : V} {base : Nat} {rows2 : Rows} (ho : o.op = .call call) (hca : call.callee = .value fo) (hfo : st.ev fo = some (.fn f caps)) (hcs : evL st call.args.toList = some cs)
    (hent : enterable P f = true) (hmd : modes.length = (cs ++ caps).length) (hcon : Contract P f args outs res) (hcr : CallR st fuel ((cs ++ caps).zip modes) args outs res base rows2) (hd : st.fits o.dst) :
    Goes P X o a w { st.put o.dst (mat res base).1 with rows := addRows rows2 base (mat res base).2, used := addUsed st.used base (mat res base).2 } := by
  obtain ⟨ρ, Fp, hm, he⟩ := h.mem
  obtain ⟨e1, e2⟩ := ev_eval he hfo
  simp only [CR] at e1
  obtain ⟨cvs, e3, e4⟩ := e1
  refine goes_call_core (vs := call.args.map a.eval ++ cvs) h ?_ ?_ hcon hcr hd
  · unfold execOp
    unfold enterable at hent
    cases hf : P.funcs[f]? with
    | none => rw [hf] at hent; cases hent
    | some fn =>
      rw [hf] at hent
      simp only [Bool.and_eq_true, bne_iff_ne, ne_eq] at hent
      have hn : ¬ ((fn.name == "runtime.NumGoroutine") = true) := by simpa using hent.1
      have hb : ¬ (fn.body.isNone = true) := by
        cases hq : fn.body with
        | none => rw [hq] at hent; simp at hent
        | some c => simp
      simp only [ho, resolve, hca, e3, Deferred.ofValue, Sem.run_bind, Sem.run_pure, Result.andThen_ok, invoke, callFunc, run_program, hf, hn, hb, if_false, Bool.false_eq_true, Array.empty_append]
  · intro ρ' Fp' hm' he'
    have hmap : ((cs ++ caps).zip modes).map (·.1) = cs ++ caps := by
      rw [List.map_fst_zip]; omega
    rw [hmap, Array.toList_append, Array.toList_map]
    refine CRL_append (evL_R he' hcs).1 ?_
    have := (ev_eval he' hfo).1
    simp only [CR] at this
    obtain ⟨cvs', e3', e4'⟩ := this
    rw [e3] at e3'
    simp only [Value.func.injEq] at e3'
    obtain ⟨_, _, rfl⟩ := e3'
    exact e4'
end
end Go.Eng
set_option linter.unusedVariables false
namespace Go.Eng
open Go.RowKit (Below)
/-- One operation takes st to st'. -/
def Step (P : Program) (o : Oper) (st st' : St) : Prop := ∀ X a w, R X st a w → Goes P X o a w st'
/-- What holds of st holds of st' (less is told, or in other words). -/
def Le (st st' : St) : Prop := ∀ X a w, R X st a w → R X st' a w
/-- The operations of a region, in the order of the text. -/
def Seg (P : Program) (ops : Array Oper) (l : List Nat) (st st' : St) : Prop := ∀ X a w, R X st a w → ∀ Q : Exit → Act → World → Prop, (∀ a' w', R X st' a' w' → Q .normal a' w') → wpOps P ops Q l a w
/-- Code: from st it comes to an end and a state of Q. -/
def TW (P : Program) (c : Code) (st : St) (Q : Exit → St → Prop) : Prop := ∀ X a w, R X st a w → c.wp P (fun e a' w' => ∃ st', Q e st' ∧ R X st' a' w') a w
section
variable {P : Program} {o : Oper} {st st' st1 st2 : St} {ops : Array Oper} {l : List Nat} {Q Q' : Exit → St → Prop}
theorem Le.refl : Le st st := fun _ _ _ h => h
theorem Le.trans (h : Le st st1) (k : Le st1 st2) : Le st st2 := fun X a w hr => k X a w (h X a w hr)
theorem Seg.nil : Seg P ops [] st st := fun _ _ _ h _ hq => by simp only [wpOps]; exact hq _ _ h
theorem yielded_of {X : Ctx} {a : Act} {w : World} (h : R X st a w) {j d : Nat} {oj : Oper} {b : Bool} (hj : ops[j]? = some oj) (hd : oj.dst = some d) (hb : st.env d = some (.v (.sc (.bool b)))) : yielded ops a.tmps j = some b := by
  obtain ⟨ρ, Fp, hm, he⟩ := h.mem
  obtain ⟨x, e1, e2, _⟩ := he.1 d _ hb
  simp only [CR, VI] at e2
  subst e2
  simp only [yielded, hj, hd, Option.bind_some, e1]
theorem Seg.cons {i : Nat} {rest : List Nat} (ho : ops[i]? = some o) (hg : o.guard = none) (h : Step P o st st1) (hs : Seg P ops rest st1 st2) : Seg P ops (i :: rest) st st2 := fun X a w hr Q hq => by
  simp only [wpOps, ho]
  rw [if_pos (by simp [Region.wanted, hg])]
  exact .inl (Oper.wp_mono (fun a' w' hr' => hs X a' w' hr' Q hq) (h X a w hr Q))
/-- An operation under a guard that says yes. -/
theorem Seg.yes {i j d : Nat} {rest : List Nat} {oj : Oper} {b : Bool} (ho : ops[i]? = some o) (hg : o.guard = some (j, b)) (hj : ops[j]? = some oj) (hd : oj.dst = some d) (hb : st.env d = some (.v (.sc (.bool b)))) (h : Step P o st st1) (hs : Seg P ops rest st1 st2) : Seg P ops (i :: rest) st st2 := fun X a w hr Q hq => by
  simp only [wpOps, ho]
  rw [if_pos (by simp [Region.wanted, hg, yielded_of hr hj hd hb])]
  exact .inl (Oper.wp_mono (fun a' w' hr' => hs X a' w' hr' Q hq) (h X a w hr Q))
/-- An operation under a guard that says no. -/
theorem Seg.no {i j d : Nat} {rest : List Nat} {oj : Oper} {b b' : Bool} (ho : ops[i]? = some o) (hg : o.guard = some (j, b)) (hj : ops[j]? = some oj) (hd : oj.dst = some d) (hb : st.env d = some (.v (.sc (.bool b')))) (hne : b' ≠ b) (hf : st.fits o.dst) (hs : Seg P ops rest (st.put o.dst (.v (.sc undef))) st2) : Seg P ops (i :: rest) st st2 := fun X a w hr Q hq => by
  simp only [wpOps, ho]
  rw [if_neg (by simp [Region.wanted, hg, yielded_of hr hj hd hb, hne])]
  obtain ⟨ρ, Fp, hm, he⟩ := hr.mem
  exact hs X _ _ (hr.pure hm he hf (by simp only [CR, VI]) (by simp only [C.ok])) Q hq
/-- A guard's slot that holds no b. -/
def notB (b : Bool) : Value → Bool
  | .bool b' => b' != b
  | .tuple _ => true
  | _ => false
theorem wanted_no {X : Ctx} {a : Act} {w : World} (h : R X st a w) {j d : Nat} {oj : Oper} {b : Bool} {u : Value} (hg : o.guard = some (j, b)) (hj : ops[j]? = some oj) (hd : oj.dst = some d) (hb : st.env d = some (.v (.sc u))) (hu : notB b u = true) : Region.wanted o (yielded ops a.tmps) = false := by
  obtain ⟨ρ, Fp, hm, he⟩ := h.mem
  obtain ⟨x, e1, e2, _⟩ := he.1 d _ hb
  simp only [CR, VI] at e2
  subst e2
  have : yielded ops a.tmps j ≠ some b := by
    simp only [yielded, hj, hd, Option.bind_some, e1]
    cases x <;> simp_all [notB]
  unfold Region.wanted
  rw [hg]
  simpa using this
theorem Seg.noU {i j d : Nat} {rest : List Nat} {oj : Oper} {b : Bool} {u : Value} (ho : ops[i]? = some o) (hg : o.guard = some (j, b)) (hj : ops[j]? = some oj) (hd : oj.dst = some d) (hb : st.env d = some (.v (.sc u))) (hne : notB b u = true) (hf : st.fits o.dst) (hs : Seg P ops rest (st.put o.dst (.v (.sc undef))) st2) : Seg P ops (i :: rest) st st2 := fun X a w hr Q hq => by
  simp only [wpOps, ho]
  rw [if_neg (by rw [wanted_no hr hg hj hd hb hne]; simp)]
  obtain ⟨ρ, Fp, hm, he⟩ := hr.mem
  exact hs X _ _ (hr.pure hm he hf (by simp only [CR, VI]) (by simp only [C.ok])) Q hq
theorem TW.le {c : Code} (h : Le st st') (k : TW P c st' Q) : TW P c st Q := fun X a w hr => k X a w (h X a w hr)
theorem TW.mono {c : Code} (h : TW P c st Q) (hq : ∀ e st, Q e st → Q' e st) : TW P c st Q' := fun X a w hr => wp_mono (h X a w hr) fun e a' w' ⟨st', k1, k2⟩ => ⟨st', hq e st' k1, k2⟩
theorem TW.skip (h : Q .normal st) : TW P .skip st Q := fun X a w hr => wp_skip ⟨st, h, hr⟩
theorem TW.label {n : Nat} (h : Q .normal st) : TW P (.label n) st Q := fun X a w hr => wp_label ⟨st, h, hr⟩
theorem TW.exit {id : Nat} (h : Q (.exit id) st) : TW P (.exit id) st Q := fun X a w hr => wp_exit ⟨st, h, hr⟩
theorem TW.ret (h : Q .ret st) : TW P .ret st Q := fun X a w hr => wp_ret ⟨st, h, hr⟩
/-- What comes behind a piece of code. -/
def After (P : Program) (y : Code) (Q : Exit → St → Prop) : Exit → St → Prop
  | .normal, st => TW P y st Q
  | e, st => Q e st
theorem TW.seq {x y : Code} (h : TW P x st (After P y Q)) : TW P (.seq x y) st Q := fun X a w hr => by
  refine wp_seq (wp_mono (h X a w hr) ?_)
  rintro e a' w' ⟨st', h1, h2⟩
  cases e with
  | normal => exact h1 X a' w' h2
  | _ => exact ⟨st', h1, h2⟩
theorem TW.cond {c : Operand} {x y : Code} {b : Bool} (hc : st.ev c = some (.v (.sc (.bool b)))) (ht : b = true → TW P x st Q) (hf : b = false → TW P y st Q) : TW P (.cond c x y) st Q := fun X a w hr => by
  have e := ev_sc hr hc
  refine wp_cond e ?_
  cases b with
  | true => exact ht rfl X a w hr
  | false => exact hf rfl X a w hr
def InBlock (id : Nat) (Q : Exit → St → Prop) : Exit → St → Prop
  | .exit id', st => if id' = id then Q .normal st else Q (.exit id') st
  | e, st => Q e st
theorem TW.block {id : Nat} {c : Code} (h : TW P c st (InBlock id Q)) : TW P (.block id c) st Q := fun X a w hr => by
  refine wp_block (wp_mono (h X a w hr) ?_)
  rintro e a' w' ⟨st', h1, h2⟩
  cases e with
  | exit id' =>
    simp only [InBlock] at h1
    simp only [Exit.inBlock]
    split
    · rename_i hid; rw [if_pos hid] at h1; exact ⟨st', h1, h2⟩
    · rename_i hid; rw [if_neg hid] at h1; exact ⟨st', h1, h2⟩
  | _ => exact ⟨st', h1, h2⟩
theorem TW.region {id : Nat} (h : Seg P ops (List.range ops.size) st st') (hq : Q .normal st') : TW P (.region id ops false) st Q := fun X a w hr => wp_region (h X a w hr _ fun a' w' hr' => ⟨st', hq, hr'⟩)
/-- A loop: I n is what holds at a round's head, with n rounds to come at the most. -/
def Round (I : Nat → St → Prop) (n : Nat) (Q : Exit → St → Prop) : Exit → St → Prop
  | .normal, st => ∃ m st', m < n ∧ Le st st' ∧ I m st'
  | e, st => Q e st
theorem TW.loop {c : Code} (I : Nat → St → Prop) (n : Nat) (h0 : I n st) (round : ∀ n st, I n st → TW P c st (Round I n Q)) : TW P (.loop c) st Q := fun X a w hr => by
  classical
  have hex : ∀ {a w}, (∃ n st, I n st ∧ R X st a w) → ∃ m, (∃ st, I m st ∧ R X st a w) ∧ ∀ k, (∃ st, I k st ∧ R X st a w) → m ≤ k := by
    intro a w ⟨n, st, h1, h2⟩
    have : ∀ n, (∃ st, I n st ∧ R X st a w) → ∃ m, (∃ st, I m st ∧ R X st a w) ∧ ∀ k, (∃ st, I k st ∧ R X st a w) → m ≤ k := by
      intro n
      induction n using Nat.strongRecOn with
      | _ n ih =>
        intro hn
        by_cases hs : ∃ k, k < n ∧ ∃ st, I k st ∧ R X st a w
        · obtain ⟨k, hk, hk2⟩ := hs
          exact ih k hk hk2
        · exact ⟨n, hn, fun k hk => by
            rcases Nat.lt_or_ge k n with h | h
            · exact absurd ⟨k, h, hk⟩ hs
            · exact h⟩
    exact this n ⟨st, h1, h2⟩
  refine wp_loop (fun a w => ∃ n st, I n st ∧ R X st a w) (fun a w => if h : ∃ n st, I n st ∧ R X st a w then (hex h).choose else 0) ⟨n, st, h0, hr⟩ ?_
  intro a w hI
  obtain ⟨⟨st1, h1, h2⟩, h3⟩ := (hex hI).choose_spec
  refine wp_mono (round _ st1 h1 X a w h2) ?_
  rintro e a' w' ⟨st', k1, k2⟩
  cases e with
  | normal =>
    obtain ⟨m, st'', k3, k4, k5⟩ := k1
    have hI' : ∃ n st, I n st ∧ R X st a' w' := ⟨m, st'', k5, k4 X a' w' k2⟩
    refine ⟨hI', ?_⟩
    simp only [dif_pos hI', dif_pos hI]
    exact Nat.lt_of_le_of_lt ((hex hI').choose_spec.2 m ⟨st'', k5, k4 X a' w' k2⟩) k3
  | _ => exact ⟨st', k1, k2⟩
/-- A function's contract out of its code. -/
theorem contract_TW {f : FuncId} {fn : Func} {c : Code} {args : List Arg} {outs : List V} {res : V} (hf : P.funcs[f]? = some fn) (hb : fn.body = some c) (h : TW P c (entry args fn.ntmps) (fun e st => (e = .normal ∨ e = .ret) ∧ Exits P fn args outs res st)) : Contract P f args outs res :=
  contract_of hf hb fun X a w hr => wp_mono (h X a w hr) fun e a' w' ⟨st', ⟨h1, h2⟩, h3⟩ => ⟨h1, st', h3, h2⟩
end
end Go.Eng
set_option linter.unusedVariables false
namespace Go.Eng
open Go.RowKit (Below)
section
variable {P : Program} {X : Ctx} {o : Oper} {st st' : St} {a : Act} {w w' : World} {S S' K : FS} {B : Nat} {pl : Nat → Option Pl} {used : Nat → Bool} {rows : Rows} {ρ : Nat → Pl} {Fp : Nat → FS}
/-- A state told in other words, the world and the slots as they are: rows may be told by less; what is new is new. -/
theorem R.retell (h : R X st a w) {rows' : Rows} {used' : Nat → Bool} (hm : ∀ ρ Fp, Mem X.S X.K X.B st.rows st.used ρ Fp w → ∃ ρ' Fp', Mem X.S X.K X.B rows' used' ρ' Fp' w ∧ (∀ r p, st.used r = true → plOf rows' ρ' r = some p → plOf st.rows ρ r = some p) ∧ ∀ r, st.used r = true → used' r = true) : R X { st with rows := rows', used := used' } a w := by
  obtain ⟨ρ, Fp, h1, h2⟩ := h.mem
  obtain ⟨ρ', Fp', k1, k2, k3⟩ := hm ρ Fp h1
  refine ⟨⟨ρ', Fp', k1, fun k c hk => ?_, CRL_mono FS.sub.refl Same.refl _ k2 h2.2.2 h2.2.1, okL_mono k3 _ h2.2.2⟩, h.nodef, h.size, h.below, h.keep, h.hsub, h.hk, h.hB⟩
  obtain ⟨y, e1, e2, e3⟩ := h2.1 k c hk
  exact ⟨y, e1, CR_mono FS.sub.refl Same.refl c k2 e3 e2, ok_mono k3 c e3⟩
/-- A cell's reference becomes the tree itself. -/
theorem Le.fold {r i n : Nat} {row : Row} {c : C} {t : V} {rows1 : Rows} (hr : st.rows r = some row) (hc : row.cells[i]? = some c) (h : clo n (upd st.rows r none) c = some (t, rows1)) : Le st { st with rows := upd rows1 r (some ⟨row.cells.set i (.own t)⟩), used := st.used } := fun X a w hR => by
  refine hR.retell fun ρ Fp hm => ?_
  obtain ⟨G, k1, k2, k3, k4, k5, k6⟩ := hm.row r row hr
  obtain ⟨x, G1, G2, e1, e2, e3, e4, e5, e6⟩ := RowR_take _ k1 hc
  have hdl : ∀ j row', upd st.rows r none j = some row' → (Fp r).dis (Fp j) := fun j row' hj => by
    have hne : j ≠ r := by rintro rfl; simp at hj
    exact hm.sep r j row row' (Ne.symm hne) hr (Subr.del (r := r) j row' hj)
  obtain ⟨f1, F, f2, f3⟩ := clo_OK hm n _ c x G1 t rows1 Subr.del e2 (fun j row' hj => (hdl j row' hj).mono (e4.trans k4) FS.sub.refl) h
  have hsub : Subr rows1 st.rows := fun j row' hj => Subr.del (r := r) j row' (f1 j row' hj)
  have hrn : rows1 r = none := by
    cases hq : rows1 r with
    | none => rfl
    | some q => have := f1 r q hq; simp at this
  have hplm : ∀ j p, plOf (upd rows1 r (some ⟨row.cells.set i (.own t)⟩)) ρ j = some p → plOf st.rows ρ j = some p := fun j p hp => by
    by_cases hj : j = r
    · subst hj
      simp only [plOf, upd_self, hr] at hp ⊢
      exact hp
    · simp only [plOf, upd_ne hj] at hp
      simp only [plOf]
      cases hq : rows1 j with
      | none => rw [hq] at hp; cases hp
      | some q => rw [hq] at hp; rw [hsub j q hq]; exact hp
  have hgone : ∀ b o, gone (upd st.rows r none) rows1 Fp b o → ¬ Fp r b o := fun b o ⟨j, row', g1, g2, g3⟩ hf => hdl j row' g1 b o hf g3
  have hGG : F.dis G2 := fun b o h1 h2 => by
    rcases f3 b o h1 with h1 | h1
    · exact e3 b o h1 h2
    · exact hgone b o h1 (k4 b o (e5 b o h2))
  have hrow := e6 (.own t) F f2 hGG
  refine ⟨ρ, upd Fp r ((Fp r).or (gone (upd st.rows r none) rows1 Fp)), ⟨fun j row' hj => ?_, fun j j' row' row'' hne hj hj' => ?_, fun j row' hj => ?_, fun j row' hj => ?_, fun j row' hj => ?_⟩, fun j p _ hp => hplm j p hp, fun _ => id⟩
  · by_cases e : j = r
    · subst e
      simp only [upd_self, Option.some.injEq] at hj ⊢
      subst hj
      refine ⟨F.or G2, RowR_mono FS.sub.refl Same.refl _ (u := st.used) (fun r p _ hp => hplm r p hp) (okL_set (hm.okc j row hr).2 (by simp only [C.ok])) FS.sub.refl Same.refl (fun _ _ => rfl) hrow, by simpa using k2, k3.trans FS.sub_or_left, ?_, ?_, k6⟩
      · exact FS.or_sub (f3.trans (FS.or_sub ((e4.trans k4).trans FS.sub_or_left) FS.sub_or_right)) ((e5.trans k4).trans FS.sub_or_left)
      · intro b o h1 h2
        rcases h2 with h2 | h2
        · rcases f3 b o h2 with h2 | h2
          · exact k5 b o h1 (e4 b o h2)
          · exact hgone b o h2 (k3 b o h1)
        · exact k5 b o h1 (e5 b o h2)
    · rw [upd_ne e] at hj ⊢
      obtain ⟨G', m1, m2⟩ := hm.row j row' (hsub j row' hj)
      exact ⟨G', RowR_mono FS.sub.refl Same.refl _ (u := st.used) (fun r p _ hp => hplm r p hp) (hm.okc j row' (hsub j row' hj)).2 FS.sub.refl Same.refl (fun _ _ => rfl) m1, m2⟩
  · have key : ∀ j' row'', j' ≠ r → rows1 j' = some row'' → ((Fp r).or (gone (upd st.rows r none) rows1 Fp)).dis (Fp j') := fun j' row'' hne' hj'' b o h1 h2 => by
      rcases h1 with h1 | ⟨q, row3, g1, g2, g3⟩
      · exact hm.sep r j' row row'' (Ne.symm hne') hr (hsub j' row'' hj'') b o h1 h2
      · have hq : q ≠ j' := by rintro rfl; rw [g2] at hj''; cases hj''
        exact hm.sep q j' row3 row'' hq (Subr.del (r := r) q row3 g1) (hsub j' row'' hj'') b o g3 h2
    by_cases e : j = r
    · subst e
      have hne' : j' ≠ j := Ne.symm hne
      rw [upd_ne hne'] at hj'
      rw [upd_self, upd_ne hne']
      exact key j' row'' hne' hj'
    · rw [upd_ne e] at hj
      by_cases e' : j' = r
      · subst e'
        rw [upd_self, upd_ne e]
        exact (key j row' e hj).symm
      · rw [upd_ne e'] at hj'
        rw [upd_ne e, upd_ne e']
        exact hm.sep j j' row' row'' hne (hsub j row' hj) (hsub j' row'' hj')
  · by_cases e : j = r
    · subst e
      rw [upd_self]
      refine FS.or_dis (hm.kdis j row hr) fun b o ⟨q, row3, g1, g2, g3⟩ hk => hm.kdis q row3 (Subr.del (r := j) q row3 g1) b o g3 hk
    · rw [upd_ne e] at hj ⊢
      exact hm.kdis j row' (hsub j row' hj)
  · by_cases e : j = r
    · subst e
      rw [upd_self]
      rintro b o (hf | ⟨q, row3, g1, g2, g3⟩)
      · exact hm.low j row hr b o hf
      · exact hm.low q row3 (Subr.del (r := j) q row3 g1) b o g3
    · rw [upd_ne e] at hj ⊢
      exact hm.low j row' (hsub j row' hj)
  · by_cases e : j = r
    · subst e
      simp only [upd_self, Option.some.injEq] at hj
      subst hj
      exact ⟨(hm.okc j row hr).1, okL_set (hm.okc j row hr).2 (by simp only [C.ok])⟩
    · rw [upd_ne e] at hj
      exact hm.okc j row' (hsub j row' hj)
theorem addRows_agree : ∀ (cs : List (List C)) (n : Nat) (f g : Rows) (j : Nat), f j = g j → addRows f n cs j = addRows g n cs j
  | [], _, _, _, _, h => h
  | c :: cs, n, f, g, j, h => by
    simp only [addRows]
    refine addRows_agree cs (n + 1) _ _ j ?_
    by_cases e : j = n
    · subst e; simp
    · rw [upd_ne e, upd_ne e, h]
theorem addRows_off : ∀ (cs : List (List C)) (n : Nat) (f : Rows) (j : Nat), (j < n ∨ n + cs.length ≤ j) → addRows f n cs j = f j
  | [], _, _, _, _ => rfl
  | c :: cs, n, f, j, h => by
    simp only [addRows]
    rw [addRows_off cs (n + 1) _ j (by rw [List.length_cons] at h; omega), upd_ne (by rw [List.length_cons] at h; omega)]
/-- A cell without a footprint is told in other words. -/
theorem Mem.recell {rows : Rows} (h : Mem S K B rows used ρ Fp w) {r i : Nat} {row : Row} {c c' : C} (hr : rows r = some row) (hi : row.cells[i]? = some c) (hx : ∀ x, w.cell? ⟨(ρ r).b, (ρ r).o + i, none⟩ = some x → CellR S w (plOf rows ρ) c' x FS.none) (hk : C.ok used c') : Mem S K B (upd rows r (some ⟨row.cells.set i c'⟩)) used ρ Fp w := by
  have hpl : plOf (upd rows r (some ⟨row.cells.set i c'⟩)) ρ = plOf rows ρ := plOf_upd_some hr
  have live : ∀ q row', upd rows r (some ⟨row.cells.set i c'⟩) q = some row' → ∃ row0, rows q = some row0 := fun q row' hq => by
    by_cases e : q = r
    · subst e; exact ⟨row, hr⟩
    · rw [upd_ne e] at hq; exact ⟨_, hq⟩
  refine ⟨fun j row' hj => ?_, fun j j' row' row'' hne hj hj' => ?_, fun j row' hj => ?_, fun j row' hj => ?_, fun j row' hj => ?_⟩
  · rw [hpl]
    by_cases e : j = r
    · subst e
      simp only [upd_self, Option.some.injEq] at hj
      subst hj
      obtain ⟨G, k1, k2, k3, k4, k5, k6⟩ := h.row j row hr
      obtain ⟨x, G1, G2, e1, e2, e3, e4, e5, e6⟩ := RowR_take _ k1 hi
      have hd := e6 c' FS.none (hx x e1) FS.none_dis
      exact ⟨G2, RowR_fs _ (FS.or_sub FS.none_sub FS.sub.refl) hd, by simpa using k2, k3, e5.trans k4, k5.mono FS.sub.refl e5, k6⟩
    · rw [upd_ne e] at hj
      exact h.row j row' hj
  · obtain ⟨r1, hr1⟩ := live j row' hj
    obtain ⟨r2, hr2⟩ := live j' row'' hj'
    exact h.sep j j' r1 r2 hne hr1 hr2
  · obtain ⟨r1, hr1⟩ := live j row' hj
    exact h.kdis j r1 hr1
  · obtain ⟨r1, hr1⟩ := live j row' hj
    exact h.low j r1 hr1
  · by_cases e : j = r
    · subst e
      simp only [upd_self, Option.some.injEq] at hj
      subst hj
      exact ⟨(h.okc j row hr).1, okL_set (h.okc j row hr).2 hk⟩
    · rw [upd_ne e] at hj; exact h.okc j row' hj
/-- A cell's own tree becomes a row of its own, to which the cell refers. -/
theorem Le.opened {r i id : Nat} {row : Row} {t : V} (hr : st.rows r = some row) (hc : row.cells[i]? = some (.own t)) (hid : ∀ j, id ≤ j → j < id + (mat t id).2.length → st.used j = false) : Le st { st with rows := upd (addRows st.rows id (mat t id).2) r (some ⟨row.cells.set i (mat t id).1⟩), used := addUsed st.used id (mat t id).2 } := fun X a w hR => by
  refine hR.retell fun ρ Fp hm => ?_
  obtain ⟨G, k1, k2, k3, k4, k5, k6⟩ := hm.row r row hr
  obtain ⟨x, G1, G2, e1, e2, e3, e4, e5, e6⟩ := RowR_take _ k1 hc
  -- the row without the cell's own, its footprint less by it
  have hdead : Mem X.S X.K X.B (upd st.rows r (some ⟨row.cells.set i .dead⟩)) st.used ρ (upd Fp r (fun b o => Fp r b o ∧ ¬ G1 b o)) w := by
    have hpl : plOf (upd st.rows r (some ⟨row.cells.set i .dead⟩)) ρ = plOf st.rows ρ := plOf_upd_some hr
    refine ⟨fun j row' hj => ?_, fun j j' row' row'' hne hj hj' => ?_, fun j row' hj => ?_, fun j row' hj => ?_, fun j row' hj => ?_⟩
    · rw [hpl]
      by_cases e : j = r
      · subst e
        simp only [upd_self, Option.some.injEq] at hj ⊢
        subst hj
        have hd := e6 .dead FS.none (by simp only [CellR, CR]) FS.none_dis
        refine ⟨G2, RowR_fs _ (FS.or_sub FS.none_sub FS.sub.refl) hd, by simpa using k2, fun b o hf => ⟨k3 b o hf, fun hg => k5 b o hf (e4 b o hg)⟩, fun b o hg => ⟨k4 b o (e5 b o hg), fun hg' => e3 b o hg' hg⟩, k5.mono FS.sub.refl e5, k6⟩
      · rw [upd_ne e] at hj ⊢
        exact hm.row j row' hj
    · have sub : ∀ q, (upd Fp r (fun b o => Fp r b o ∧ ¬ G1 b o) q).sub (Fp q) := fun q b o hf => by
        by_cases e : q = r
        · subst e; rw [upd_self] at hf; exact hf.1
        · rwa [upd_ne e] at hf
      have live : ∀ q row', upd st.rows r (some ⟨row.cells.set i .dead⟩) q = some row' → ∃ row0, st.rows q = some row0 := fun q row' hq => by
        by_cases e : q = r
        · subst e; exact ⟨row, hr⟩
        · rw [upd_ne e] at hq; exact ⟨_, hq⟩
      obtain ⟨r1, hr1⟩ := live j row' hj
      obtain ⟨r2, hr2⟩ := live j' row'' hj'
      exact (hm.sep j j' r1 r2 hne hr1 hr2).mono (sub j) (sub j')
    · by_cases e : j = r
      · subst e; rw [upd_self]; exact (hm.kdis j row hr).mono (fun b o hf => hf.1) FS.sub.refl
      · rw [upd_ne e] at hj ⊢; exact hm.kdis j row' hj
    · by_cases e : j = r
      · subst e; rw [upd_self]; exact fun b o hf => hm.low j row hr b o hf.1
      · rw [upd_ne e] at hj ⊢; exact hm.low j row' hj
    · by_cases e : j = r
      · subst e
        simp only [upd_self, Option.some.injEq] at hj
        subst hj
        exact ⟨(hm.okc j row hr).1, okL_set (hm.okc j row hr).2 (by simp only [C.ok])⟩
      · rw [upd_ne e] at hj; exact hm.okc j row' hj
  have hG1 : G1.sub (Fp r) := e4.trans k4
  obtain ⟨ρ', Fp', m1, m2, m3⟩ := mat_R t id hdead e2 (fun j row' hj b o h1 h2 => by
    by_cases e : j = r
    · subst e; rw [upd_self] at h2; exact h2.2 h1
    · rw [upd_ne e] at hj h2
      exact hm.sep r j row row' (Ne.symm e) hr hj b o (hG1 b o h1) h2) ((hm.kdis r row hr).mono hG1 FS.sub.refl) (fun b o hf => hm.low r row hr b o (hG1 b o hf)) hid
  have hur : st.used r = true := (hm.okc r row hr).1
  have hrid : r < id ∨ id + (mat t id).2.length ≤ r := by
    rcases Nat.lt_or_ge r id with h | h
    · exact .inl h
    · rcases Nat.lt_or_ge r (id + (mat t id).2.length) with h' | h'
      · rw [hid r h h'] at hur; cases hur
      · exact .inr h'
  have hrr : addRows (upd st.rows r (some ⟨row.cells.set i .dead⟩)) id (mat t id).2 r = some ⟨row.cells.set i .dead⟩ := by
    rw [addRows_off _ _ _ _ hrid, upd_self]
  have hil : i < row.cells.length := (List.getElem?_eq_some_iff.1 hc).1
  have hρ : plOf (addRows (upd st.rows r (some ⟨row.cells.set i .dead⟩)) id (mat t id).2) ρ' r = some (ρ r) := by
    have h1 : plOf (addRows (upd st.rows r (some ⟨row.cells.set i .dead⟩)) id (mat t id).2) ρ' r = some (ρ' r) := plOf_some hrr
    have h2 := m1.mono r _ hur h1
    rw [plOf_some (upd_self _ _ _)] at h2
    rw [h1, h2]
  have hρ' : ρ' r = ρ r := by
    rw [plOf_some hrr] at hρ
    exact Option.some.inj hρ
  have hre := m1.mem.recell (i := i) (c := .dead) (c' := (mat t id).1) hrr (by simp [hil]) (fun y hy => by
    rw [hρ'] at hy
    rw [e1] at hy
    obtain rfl := Option.some.inj hy
    exact CR_CellR m2) m3
  have hfun : upd (addRows (upd st.rows r (some ⟨row.cells.set i .dead⟩)) id (mat t id).2) r (some ⟨(row.cells.set i .dead).set i (mat t id).1⟩) = upd (addRows st.rows id (mat t id).2) r (some ⟨row.cells.set i (mat t id).1⟩) := by
    funext j
    by_cases e : j = r
    · subst e; rw [upd_self, upd_self, List.set_set]
    · rw [upd_ne e, upd_ne e]
      exact addRows_agree _ _ _ _ _ (upd_ne e)
  simp only [hfun] at hre
  refine ⟨ρ', Fp', hre, fun j p hu hp => ?_, m1.usd⟩
  have hpl2 : plOf (upd (addRows st.rows id (mat t id).2) r (some ⟨row.cells.set i (mat t id).1⟩)) ρ' = plOf (addRows (upd st.rows r (some ⟨row.cells.set i .dead⟩)) id (mat t id).2) ρ' := by
    rw [← hfun]
    exact plOf_upd_some hrr
  rw [hpl2] at hp
  have := m1.mono j p hu hp
  rwa [plOf_upd_some hr] at this
end
end Go.Eng
set_option linter.unusedVariables false
namespace Go.Eng
/-! The evaluator's ground: what an operation turns, told as a difference. -/
def allT : List Prop → Prop
  | [] => True
  | p :: ps => p ∧ allT ps
theorem allT_append : ∀ {ps qs : List Prop}, allT (ps ++ qs) ↔ allT ps ∧ allT qs
  | [], qs => by simp [allT]
  | p :: ps, qs => by simp only [List.cons_append, allT, allT_append (ps := ps), and_assoc]
/-- put: what the destination holds; del: rows that are gone; set: rows told anew; new: numbers now used. -/
structure Dl where
  put : Option C
  del : List Nat
  set : List (Nat × List C)
  new : List Nat
def delRows (rows : Rows) : List Nat → Rows
  | [] => rows
  | r :: rs => delRows (upd rows r none) rs
def setRows (rows : Rows) : List (Nat × List C) → Rows
  | [] => rows
  | (r, cs) :: l => setRows (upd rows r (some ⟨cs⟩)) l
def newUsed (u : Nat → Bool) : List Nat → Nat → Bool
  | [] => u
  | r :: l => newUsed (upd u r true) l
def St.putO (st : St) (dst : Option Tmp) : Option C → St
  | some c => st.put dst c
  | none => st
def St.app (st : St) (dst : Option Tmp) (d : Dl) : St := { st.putO dst d.put with rows := setRows (delRows st.rows d.del) d.set, used := newUsed st.used d.new }
structure Sub (lk st : St) : Prop where
  env : ∀ k c, lk.env k = some c → st.env k = some c
  rows : ∀ r row, lk.rows r = some row → st.rows r = some row
abbrev Res := Option (List Prop × Dl)
def rput (c : C) : Res := some ([], ⟨some c, [], [], []⟩)
def rputc (ps : List Prop) (c : C) : Res := some (ps, ⟨some c, [], [], []⟩)
/-- What the difference is worth: under its conditions the operation turns each state that knows as much. -/
def Sound (P : Program) (o : Oper) (lk : St) (r : Res) : Prop := ∀ cs d, r = some (cs, d) → allT cs → ∀ st, Sub lk st → st.fits o.dst → (∀ id ∈ d.new, st.used id = false) → Step P o st (st.app o.dst d)
/-- Hints. -/
inductive H where
  | auto
  | b (b : Bool)
  | i (n : Int)
  | v (v : Value)
  | cell (c : C)
  | cells (cs : List C)
  | vs (ts : List V)
  | idx (j : Nat) (st : Bool)
  | idv (j : Nat) (ts : List V)
  | sl (l u : Nat) (st : Bool)
  | slv (l u : Nat) (ts : List V)
  | new (id : Nat)
  | mk (id n : Nat) (cs : List C)
  | app (id : Nat) (cs : List C)
  | apd (id : Nat) (ds cs : List C)
  | dv
  | np
  | sa
  | si (j : Nat)
  | ss (l u : Nat)
  | mm
  | opn (id : Nat) (t : V) (cs : List C)
  | cls (O : List (Nat × List V × List V)) (n : Nat) (cs : List C)
  | apz (id n : Nat) (cs : List C)
  | apm (id : Nat) (ts : List V) (cs : List C)
  | sct (l u id : Nat) (cs : List C)
  | apc (id : Nat) (O : List (Nat × List V × List V)) (n : Nat) (cs : List C)
section
variable {P : Program} {X : Ctx} {o : Oper} {lk st st' : St} {a : Act} {w w' : World}
theorem Sub.refl : Sub st st := ⟨fun _ _ => id, fun _ _ => id⟩
theorem Sub.ev (h : Sub lk st) {x : Operand} {c : C} (hx : lk.ev x = some c) : st.ev x = some c := by
  cases x with
  | tmp t => exact h.env t c hx
  | _ => exact hx
theorem Sub.evL (h : Sub lk st) : ∀ {xs : List Operand} {cs : List C}, evL lk xs = some cs → evL st xs = some cs
  | [], _, hx => hx
  | x :: xs, cs, hx => by
    simp only [Go.Eng.evL] at hx ⊢
    split at hx
    · rename_i c cs' h1 h2
      rw [h.ev h1, h.evL h2]
      exact hx
    · cases hx
theorem Sub.evParts (h : Sub lk st) : ∀ {xs : List (Nat × Operand)} {cs : List (Nat × C)}, evParts lk xs = some cs → evParts st xs = some cs
  | [], _, hx => hx
  | (i, x) :: xs, cs, hx => by
    simp only [Go.Eng.evParts] at hx ⊢
    split at hx
    · rename_i c cs' h1 h2
      rw [h.ev h1, h.evParts h2]
      exact hx
    · cases hx
theorem app_put (st : St) (dst : Option Tmp) (c : C) : st.app dst ⟨some c, [], [], []⟩ = st.put dst c := by
  cases dst <;> rfl
theorem Sound.none : Sound P o lk none := fun _ _ h => by cases h
theorem Sound.put {c : C} {ps : List Prop} (h : allT ps → ∀ st, Sub lk st → st.fits o.dst → Step P o st (st.put o.dst c)) : Sound P o lk (rputc ps c) := fun cs d e hc st hs hf hn => by
  simp only [rputc, Option.some.injEq, Prod.mk.injEq] at e
  obtain ⟨rfl, rfl⟩ := e
  rw [app_put]
  exact h hc st hs hf
theorem Sound.put' {c : C} (h : ∀ st, Sub lk st → st.fits o.dst → Step P o st (st.put o.dst c)) : Sound P o lk (rput c) := Sound.put (ps := []) fun _ => h
/-! Moves. -/
def evMv (lk : St) (x : Operand) : Res := match lk.ev x with
  | some c => rput c
  | none => none
theorem evMv_S {x : Operand} (ho : o.op = .move x ∨ o.op = .assign x) : Sound P o lk (evMv lk x) := by
  unfold evMv
  split
  · rename_i c hx
    exact Sound.put' fun st hs hf X a w h => goes_move h ho (hs.ev hx) hf
  · exact Sound.none
/-! Scalars. -/
def clm (r : Value) : H → Res
  | .auto => rput (.v (.sc r))
  | .b b => match r with
    | .bool p => rputc [p = b] (.v (.sc (.bool b)))
    | _ => none
  | .i n => match r with
    | .int k m => rputc [m = n] (.v (.sc (.int k n)))
    | _ => none
  | .v v => rputc [r = v] (.v (.sc v))
  | _ => none
theorem clm_S {r : Value} {h : H} (k : ∀ st, Sub lk st → st.fits o.dst → Step P o st (st.put o.dst (.v (.sc r)))) : Sound P o lk (clm r h) := by
  cases h with
  | auto => exact Sound.put' k
  | b b =>
    simp only [clm]
    split
    · refine Sound.put fun hp => ?_
      simp only [allT, and_true] at hp
      subst hp
      exact k
    · exact Sound.none
  | i b =>
    simp only [clm]
    split
    · refine Sound.put fun hp => ?_
      simp only [allT, and_true] at hp
      subst hp
      exact k
    · exact Sound.none
  | v b =>
    simp only [clm]
    refine Sound.put fun hp => ?_
    simp only [allT, and_true] at hp
    subst hp
    exact k
  | _ => exact Sound.none
def plain : Value → Bool
  | .int _ _ | .bool _ | .string _ | .slice _ _ _ | .pointer _ => true
  | _ => false
def evBin (P : Program) (lk : St) (op : BinOp) (t : TypeId) (x y : Operand) (h : H) : Res := match lk.ev x, lk.ev y with
  | some (.v (.sc m)), some (.v (.sc n)) => match plain m with
    | true => match pev P (binOp op t m n) with
      | some r => clm r h
      | none => none
    | false => none
  | _, _ => none
theorem evBin_S {op : BinOp} {x y : Operand} {h : H} {t t' : TypeId} (ho : o.op = .binOp op t x y t') : Sound P o lk (evBin P lk op t x y h) := by
  unfold evBin
  split
  · rename_i m n hx hy
    split
    · rename_i hk
      split
      · rename_i r hr
        refine clm_S fun st hs hf X a w h => ?_
        have e1 := ev_sc h (hs.ev hx)
        have e2 := ev_sc h (hs.ev hy)
        refine goes_scalar h ?_ hf
        unfold execOp
        have hg : (eqGuard op t x y m n).run P w = .ok () w := by
          cases m <;> simp only [plain, reduceCtorEq] at hk <;> unfold eqGuard <;> split <;> cases n <;> rfl
        simp only [ho, e1, e2, Sem.run_bind, hg, pev_run _ hr, Result.andThen_ok, Sem.run_pure]
      · exact Sound.none
    · exact Sound.none
  · exact Sound.none
/-- Quotient and rest, where the divisor is not zero. -/
def evDiv (lk : St) (op : BinOp) (x y : Operand) : Res := match lk.ev x, lk.ev y with
  | some (.v (.sc (.int k m))), some (.v (.sc (.int k' n))) => match decide (k = k'), op with
    | true, .quo => rputc [n ≠ 0] (.v (.sc (.int k (k.wrap (m.tdiv n)))))
    | true, .rem => rputc [n ≠ 0] (.v (.sc (.int k (m.tmod n))))
    | _, _ => none
  | _, _ => none
theorem evDiv_S {op : BinOp} {x y : Operand} {t t' : TypeId} (ho : o.op = .binOp op t x y t') : Sound P o lk (evDiv lk op x y) := by
  unfold evDiv
  split
  · rename_i k m k' n hx hy
    split
    · rename_i hk
      have hk := of_decide_eq_true hk
      subst hk
      refine Sound.put fun hp st hs hf X a w h => ?_
      simp only [allT, and_true] at hp
      have e1 := ev_sc h (hs.ev hx)
      have e2 := ev_sc h (hs.ev hy)
      refine goes_scalar h ?_ hf
      unfold execOp
      have hg : (eqGuard .quo t x y (.int k m) (.int k n)).run P w = .ok () w := rfl
      simp [ho, e1, e2, hg, binOp, Op.intDiv, hp]
    · rename_i hk
      have hk := of_decide_eq_true hk
      subst hk
      refine Sound.put fun hp st hs hf X a w h => ?_
      simp only [allT, and_true] at hp
      have e1 := ev_sc h (hs.ev hx)
      have e2 := ev_sc h (hs.ev hy)
      refine goes_scalar h ?_ hf
      unfold execOp
      have hg : (eqGuard .rem t x y (.int k m) (.int k n)).run P w = .ok () w := rfl
      simp [ho, e1, e2, hg, binOp, Op.intDiv, hp]
    · exact Sound.none
  · exact Sound.none
/-- One value without memory, turned by what asks the program alone. -/
def ev1 (P : Program) (lk : St) (g : Value → Sem Value) (x : Operand) (h : H) : Res := match lk.ev x with
  | some (.v (.sc m)) => match pev P (g m) with
      | some r => clm r h
      | none => none
  | _ => none
theorem ev1_S {g : Value → Sem Value} {x : Operand} {h : H} (ho : ∀ ρ : Operand → Value, execOp ρ o = (do pure (.value (← g (ρ x))))) : Sound P o lk (ev1 P lk g x h) := by
  unfold ev1
  split
  · rename_i m hx
    split
    · rename_i r hr
      refine clm_S fun st hs hf X a w h => ?_
      have e1 := ev_sc h (hs.ev hx)
      refine goes_scalar h ?_ hf
      simp only [ho, e1, Sem.run_bind, pev_run _ hr, Result.andThen_ok, Sem.run_pure]
    · exact Sound.none
  · exact Sound.none
end
end Go.Eng
set_option linter.unusedVariables false
namespace Go.Eng
section
variable {P : Program} {X : Ctx} {o : Oper} {lk st st' : St} {a : Act} {w w' : World}
theorem Sub.row (h : Sub lk st) {r : Nat} {row : Row} (hr : lk.rows r = some row) : st.rows r = some row := h.rows r row hr
/-! Loads. -/
def evLoad (P : Program) (lk : St) (t : TypeId) (x : Operand) (h : H) : Res := match lk.ev x, tyAgg P t with
  | some (.pr r off), some false => match lk.rows r, h with
    | some row, .cell c => rputc [(row.cells[off]?).bind readC = some c] c
    | some row, .auto => match (row.cells[off]?).bind readC with
      | some c => rput c
      | none => none
    | _, _ => none
  | some (.pr r off), some true => match lk.rows r, tySize P t, h with
    | some row, some n, .cells ds => rputc [off + n ≤ row.cells.length, readL ((row.cells.drop off).take n) = some ds] (.ag ds)
    | some row, some n, .auto => match Nat.ble (off + n) row.cells.length, readL ((row.cells.drop off).take n) with
      | true, some ds => rput (.ag ds)
      | _, _ => none
    | _, _, _ => none
  | some (.v (.bx cs)), some false => match h with
    | .vs [d] => rputc [cs[0]? = some d] (.v d)
    | .auto => match cs[0]? with
      | some d => rput (.v d)
      | none => none
    | _ => none
  | some (.v (.bx cs)), some true => match tySize P t, h with
    | some n, .vs ds => rputc [n ≤ cs.length, cs.take n = ds] (.ag (ds.map C.v))
    | some n, .auto => match Nat.ble n cs.length with
      | true => rput (.ag ((cs.take n).map C.v))
      | false => none
    | _, _ => none
  | _, _ => none
theorem evLoad_S {t : TypeId} {x : Operand} {h : H} (ho : o.op = .load t x) : Sound P o lk (evLoad P lk t x h) := by
  unfold evLoad
  split
  · rename_i r off hx ht
    split
    · rename_i row c hr
      refine Sound.put fun hp st hs hf X a w h => ?_
      simp only [allT, and_true, Option.bind_eq_some_iff] at hp
      obtain ⟨c0, h1, h2⟩ := hp
      exact goes_load h ho ht (hs.ev hx) (hs.row hr) h1 h2 hf
    · rename_i row hr
      split
      · rename_i c hp
        refine Sound.put' fun st hs hf X a w h => ?_
        simp only [Option.bind_eq_some_iff] at hp
        obtain ⟨c0, h1, h2⟩ := hp
        exact goes_load h ho ht (hs.ev hx) (hs.row hr) h1 h2 hf
      · exact Sound.none
    · exact Sound.none
  · rename_i r off hx ht
    split
    · rename_i row n ds hr hn
      refine Sound.put fun hp st hs hf X a w h => ?_
      simp only [allT, and_true] at hp
      exact goes_loadAgg h ho ht hn (hs.ev hx) (hs.row hr) hp.1 hp.2 hf
    · rename_i row n hr hn
      split
      · rename_i ds h1 h2
        exact Sound.put' fun st hs hf X a w h => goes_loadAgg h ho ht hn (hs.ev hx) (hs.row hr) (Nat.le_of_ble_eq_true h1) h2 hf
      · exact Sound.none
    · exact Sound.none
  · rename_i cs hx ht
    split
    · rename_i d
      refine Sound.put fun hp st hs hf X a w h => ?_
      simp only [allT, and_true] at hp
      exact goes_loadV h ho ht (hs.ev hx) hp hf
    · split
      · rename_i d hp
        exact Sound.put' fun st hs hf X a w h => goes_loadV h ho ht (hs.ev hx) hp hf
      · exact Sound.none
    · exact Sound.none
  · rename_i cs hx ht
    split
    · rename_i n ds hn
      refine Sound.put fun hp st hs hf X a w h => ?_
      simp only [allT, and_true] at hp
      obtain ⟨h1, rfl⟩ := hp
      exact goes_loadAggV h ho ht hn (hs.ev hx) h1 hf
    · rename_i n hn
      split
      · rename_i h1
        exact Sound.put' fun st hs hf X a w h => goes_loadAggV h ho ht hn (hs.ev hx) (Nat.le_of_ble_eq_true h1) hf
      · exact Sound.none
    · exact Sound.none
  · exact Sound.none
/-! Stores. -/
def rset (ps : List Prop) (r : Nat) (cs : List C) : Res := some (ps, ⟨none, [], [(r, cs)], []⟩)
def evStore (P : Program) (lk : St) (t : TypeId) (x y : Operand) (dst : Option Tmp) (h : H) : Res := match dst, lk.ev x, lk.ev y, tySize P t with
  | none, some (.pr r off), some c, some n => match lk.rows r, Nat.beq n (cellsC c).length, (cellsC c).all oneC with
    | some row, true, true => match h with
      | .cells cs => rset [off + n ≤ row.cells.length, setRange row.cells off ((cellsC c).map toCell) = cs] r cs
      | .auto => match Nat.ble (off + n) row.cells.length with
        | true => rset [] r (setRange row.cells off ((cellsC c).map toCell))
        | false => none
      | _ => none
    | _, _, _ => none
  | _, _, _, _ => none
theorem Sound.set {r : Nat} {cs : List C} {ps : List Prop} (h : allT ps → ∀ st, Sub lk st → Step P o st { st with rows := upd st.rows r (some ⟨cs⟩) }) : Sound P o lk (rset ps r cs) := fun cs d e hc st hs hf hn => by
  simp only [rset, Option.some.injEq, Prod.mk.injEq] at e
  obtain ⟨rfl, rfl⟩ := e
  exact h hc st hs
theorem evStore_S {t : TypeId} {x y : Operand} {h : H} (ho : o.op = .store t x y) : Sound P o lk (evStore P lk t x y o.dst h) := by
  unfold evStore
  split
  · rename_i r off c n hd hx hy hn
    split
    · rename_i row hr h1 h2
      have h1 := Nat.eq_of_beq_eq_true h1
      split
      · rename_i cs
        refine Sound.set fun hp st hs X a w h => ?_
        simp only [allT, and_true] at hp
        obtain ⟨h3, rfl⟩ := hp
        exact goes_store h ho (h1 ▸ hn) (hs.ev hx) (hs.ev hy) (hs.row hr) (h1 ▸ h3) h2 hd
      · split
        · rename_i h3
          exact Sound.set fun hp st hs X a w h => goes_store h ho (h1 ▸ hn) (hs.ev hx) (hs.ev hy) (hs.row hr) (h1 ▸ Nat.le_of_ble_eq_true h3) h2 hd
        · exact Sound.none
      · exact Sound.none
    · exact Sound.none
  · exact Sound.none
/-! Addresses. -/
def evField (P : Program) (lk : St) (t : TypeId) (x : Operand) (f : Nat) : Res := match tyField P t f, lk.ev x with
  | some (k, n, ft), some (.ag cs) => match tyAgg P ft with
    | some true => rput (.ag ((cs.drop k).take n))
    | some false => match cs[k]? with
      | some c => rput c
      | none => none
    | none => none
  | _, _ => none
theorem evField_S {t : TypeId} {x : Operand} {f : Nat} (ho : o.op = .field t x f) : Sound P o lk (evField P lk t x f) := by
  unfold evField
  split
  · rename_i k n ft cs hf' hx
    split
    · rename_i hag
      exact Sound.put' fun st hs hf X a w h => goes_fieldAgg h ho hf' hag (hs.ev hx) hf
    · rename_i hag
      split
      · rename_i c hc
        exact Sound.put' fun st hs hf X a w h => goes_field h ho hf' hag (hs.ev hx) hc hf
      · exact Sound.none
    · exact Sound.none
  · exact Sound.none
def evFA (P : Program) (lk : St) (t : TypeId) (x : Operand) (f : Nat) : Res := match tyField P t f with
  | some (k, n, ft) => match n with
    | 0 => none
    | _ + 1 => match lk.ev x with
      | some (.pr r off) => rput (.pr r (off + k))
      | some (.v (.bx cs)) => rput (.v (.bx (cs.drop k)))
      | _ => none
  | none => none
theorem evFA_S {t : TypeId} {x : Operand} {f : Nat} (ho : o.op = .fieldAddr t x f) : Sound P o lk (evFA P lk t x f) := by
  unfold evFA
  split
  · rename_i k n ft hf'
    split
    · exact Sound.none
    · split
      · rename_i r off hx
        exact Sound.put' fun st hs hf X a w h => goes_fieldAddr h ho hf' (by omega) (hs.ev hx) hf
      · rename_i cs hx
        exact Sound.put' fun st hs hf X a w h => goes_fieldAddrV h ho hf' (by omega) (hs.ev hx) hf
      · exact Sound.none
  · exact Sound.none
/-- idx j: the index is j and lies within; idv j ts: moreover the cells from there on are ts. -/
def evIA (P : Program) (lk : St) (t : TypeId) (x y : Operand) (h : H) : Res := match tyElem P t with
  | some e => match tySize P e, lk.ev y with
    | some E, some (.v (.sc (.int k i))) => match lk.ev x with
      | some (.sr r off E' len) => match Nat.beq E E', lk.rows r, h with
        | true, some row, .idx j true => match i, Nat.blt j len with
          | .ofNat i', true => match Nat.beq i' j with
            | true => rput (.pr r (off + j * E))
            | false => none
          | _, _ => none
        | true, some row, .idx j false => rputc [i = (j : Int), j < len] (.pr r (off + j * E))
        | _, _, _ => none
      | some (.v (.sl _ len cs)) => match h with
        | .idv j ts => rputc [i = (j : Int), j < len, cs.drop (j * E) = ts, cs ≠ []] (.v (.bx ts))
        | _ => none
      | _ => none
    | _, _ => none
  | none => none
theorem evIA_S {t : TypeId} {x y : Operand} {h : H} (ho : o.op = .indexAddr t x y) : Sound P o lk (evIA P lk t x y h) := by
  unfold evIA
  split
  · rename_i e he
    split
    · rename_i E k i hE hy
      split
      · rename_i r off E' len hx
        split
        · rename_i row j hb hr
          split
          · rename_i i' h1
            split
            · rename_i h2
              have h1 : j + 1 ≤ len := Nat.le_of_ble_eq_true h1
              have h2 := Nat.eq_of_beq_eq_true h2
              have hb := Nat.eq_of_beq_eq_true hb
              subst h2 hb
              exact Sound.put' fun st hs hf X a w h => goes_indexAddr h ho he hE (hs.ev hx) (hs.row hr) (hs.ev hy) (by simp) (by simp; omega) hf
            · exact Sound.none
          · exact Sound.none
        · rename_i row j hb hr
          refine Sound.put fun hp st hs hf X a w h => ?_
          simp only [allT, and_true] at hp
          obtain ⟨rfl, h1⟩ := hp
          have hb := Nat.eq_of_beq_eq_true hb
          subst hb
          exact goes_indexAddr h ho he hE (hs.ev hx) (hs.row hr) (hs.ev hy) (by omega) (by omega) hf
        · exact Sound.none
      · rename_i E' len cs hx
        split
        · rename_i j ts
          refine Sound.put fun hp st hs hf X a w h => ?_
          simp only [allT, and_true] at hp
          obtain ⟨rfl, h1, rfl, h2⟩ := hp
          exact goes_indexAddrV h ho he hE (hs.ev hx) (hs.ev hy) (by omega) (by omega) h2 hf
        · exact Sound.none
      · exact Sound.none
    · exact Sound.none
  · exact Sound.none
end
end Go.Eng
set_option linter.unusedVariables false
namespace Go.Eng
section
variable {P : Program} {X : Ctx} {o : Oper} {lk st st' : St} {a : Act} {w w' : World}
/-! New rows. -/
def rnew (ps : List Prop) (c : C) (id : Nat) (cs : List C) : Res := some (ps, ⟨some c, [], [(id, cs)], [id]⟩)
theorem Sound.new {c : C} {id : Nat} {cs : List C} {ps : List Prop} (h : allT ps → ∀ st, Sub lk st → st.fits o.dst → st.used id = false → Step P o st { st.put o.dst c with rows := upd st.rows id (some ⟨cs⟩), used := upd st.used id true }) : Sound P o lk (rnew ps c id cs) := fun cs' d e hc st hs hf hn => by
  simp only [rnew, Option.some.injEq, Prod.mk.injEq] at e
  obtain ⟨rfl, rfl⟩ := e
  exact h hc st hs hf (hn id (by simp))
def evAlloc (P : Program) (t : TypeId) (h : H) : Res := match tyZero P t, h with
  | some zs, .new id => rnew [] (.pr id 0) id (zs.map fun z => C.own (.sc z))
  | _, _ => none
theorem evAlloc_S {t : TypeId} {h : H} (ho : o.op = .alloc t) : Sound P o lk (evAlloc P t h) := by
  unfold evAlloc
  split
  · rename_i zs id hz
    exact Sound.new fun _ st hs hf hu X a w h => goes_alloc h ho hz hu hf
  · exact Sound.none
def evBox (P : Program) (lk : St) (y : Operand) (h : H) : Res := match lk.ev y, h with
  | some c, .new id => match (cellsC c).all oneC with
    | true => rnew [] (.pr id 0) id ((cellsC c).map toCell)
    | false => none
  | _, _ => none
theorem evBox_S {t : TypeId} {y : Operand} {h : H} (ho : o.op = .box t y) : Sound P o lk (evBox P lk y h) := by
  unfold evBox
  split
  · rename_i c id hy
    split
    · rename_i h1
      exact Sound.new fun _ st hs hf hu X a w h => goes_box h ho (hs.ev hy) h1 hu hf
    · exact Sound.none
  · exact Sound.none
def evBuild (P : Program) (lk : St) (t : TypeId) (parts : Array (Nat × Operand)) : Res := match tyZero P t, tyPlaces P t, evParts lk parts.toList with
  | some zs, some pls, some ps => match fillC (pls[·]?) (zs.map fun z => C.v (.sc z)) ps with
    | some ds => rput (.ag ds)
    | none => none
  | _, _, _ => none
theorem evBuild_S {t : TypeId} {parts : Array (Nat × Operand)} (ho : o.op = .build t parts) : Sound P o lk (evBuild P lk t parts) := by
  unfold evBuild
  split
  · rename_i zs pls ps hz hp hv
    split
    · rename_i ds hfi
      exact Sound.put' fun st hs hf X a w h => goes_build h ho hz hp (hs.evParts hv) hfi hf
    · exact Sound.none
  · exact Sound.none
def evBS (P : Program) (lk : St) (t : TypeId) (len : Nat) (parts : Array (Nat × Operand)) (h : H) : Res := match tyElem P t with
  | some e => match tySize P e, tyZero P e, evParts lk parts.toList, h with
    | some n, some zs, some ps, .new id => match fillC (fun i => some (i * n, n)) ((List.replicate len zs).flatten.map fun z => C.v (.sc z)) ps, Nat.beq zs.length n, Nat.ble (len * n) 16777216 with
      | some ds, true, true => rnew [] (.sr id 0 n len) id (ds.map toCell)
      | _, _, _ => none
    | _, _, _, _ => none
  | none => none
theorem evBS_S {t : TypeId} {len : Nat} {parts : Array (Nat × Operand)} {h : H} (ho : o.op = .buildSlice t len parts) : Sound P o lk (evBS P lk t len parts h) := by
  unfold evBS
  split
  · rename_i e he
    split
    · rename_i n zs ps id hn hz hv
      split
      · rename_i ds hfi h1 h2
        exact Sound.new fun _ st hs hf hu X a w h => goes_buildSlice h ho he hn hz (Nat.eq_of_beq_eq_true h1) (Nat.le_of_ble_eq_true h2) (hs.evParts hv) hfi hu hf
      · exact Sound.none
    · exact Sound.none
  · exact Sound.none
/-- make of so many: n is the length, cs what the cells are. -/
def evMS (P : Program) (lk : St) (t : TypeId) (x y : Operand) (h : H) : Res := match tyElem P t, h with
  | some e, .mk id n cs => match tySize P e, tyBytes P e, tyZero P e with
    | some E, some b, some zs => match lk.ev x, lk.ev y with
      | some (.v (.sc (.int k l))), some (.v (.sc (.int k' l'))) => match Nat.beq zs.length E with
        | true => rnew [l = (n : Int), l' = (n : Int), n ≤ 281474976710656, b * n ≤ 281474976710656, (List.replicate n (zs.map fun z => C.own (.sc z))).flatten = cs] (.sr id 0 E n) id cs
        | false => none
      | _, _ => none
    | _, _, _ => none
  | _, _ => none
theorem evMS_S {t : TypeId} {x y : Operand} {h : H} (ho : o.op = .makeSlice t x y) : Sound P o lk (evMS P lk t x y h) := by
  unfold evMS
  split
  · rename_i e id n cs he
    split
    · rename_i E b zs hE hb hz
      split
      · rename_i k l k' l' hx hy
        split
        · rename_i h1
          refine Sound.new fun hp st hs hf hu X a w h => ?_
          simp only [allT, and_true] at hp
          obtain ⟨rfl, rfl, h2, h3, rfl⟩ := hp
          have h4 : (b : Int) * (n : Int) ≤ 2 ^ 48 := by
            have h5 : ((b * n : Nat) : Int) ≤ 281474976710656 := Int.ofNat_le.mpr h3
            rw [Int.natCast_mul] at h5
            omega
          have := goes_makeSlice h ho he hE hb hz (Nat.eq_of_beq_eq_true h1) (hs.ev hx) (hs.ev hy) (by omega) (by omega) h4 hu hf
          simpa using this
        · exact Sound.none
      · exact Sound.none
    · exact Sound.none
  · exact Sound.none
/-! Slices. -/
theorem Sub.low (h : Sub lk st) {x : Option Operand} {l : Int} (hx : lowOf lk x = some l) : lowOf st x = some l := by
  cases x with
  | none => exact hx
  | some x =>
    simp only [lowOf] at hx ⊢
    split at hx
    · rename_i k i h1
      rw [h.ev h1]
      exact hx
    · cases hx
theorem Sub.high (h : Sub lk st) {n : Nat} {x : Option Operand} {l : Int} (hx : highOf lk n x = some l) : highOf st n x = some l := by
  cases x with
  | none => exact hx
  | some x =>
    simp only [highOf] at hx ⊢
    split at hx
    · rename_i k i h1
      rw [h.ev h1]
      exact hx
    · cases hx
def evSl (P : Program) (lk : St) (t : TypeId) (x : Operand) (lo hi : Option Operand) (h : H) : Res := match tyElem P t, h with
  | some e, .sl l u st => match tySize P e, lk.ev x with
    | some E, some (.sr r off E' len) => match lowOf lk lo, highOf lk len hi, Nat.beq E E' with
      | some l', some u', true => rputc [l' = (l : Int), u' = (u : Int), l ≤ u, u ≤ len] (.sr r (off + l * E) E (u - l))
      | _, _, _ => none
    | _, _ => none
  | some e, .slv l u ts => match tySize P e, lk.ev x with
    | some E, some (.v (.sl E' len cs)) => match lowOf lk lo, highOf lk len hi with
      | some l', some u' => rputc [l' = (l : Int), u' = (u : Int), l ≤ u, u ≤ len, (cs.drop (l * E)).take ((u - l) * E) = ts] (.v (.sl E' (u - l) ts))
      | _, _ => none
    | _, _ => none
  | _, _ => none
theorem evSl_S {t : TypeId} {x : Operand} {lo hi : Option Operand} {h : H} (ho : o.op = .slice t x lo hi none) : Sound P o lk (evSl P lk t x lo hi h) := by
  unfold evSl
  split
  · rename_i e l u b he
    split
    · rename_i E r off E' len hE hx
      split
      · rename_i l' u' hl hu h1
        have h1 := Nat.eq_of_beq_eq_true h1
        subst h1
        refine Sound.put fun hp st hs hf X a w h => ?_
        simp only [allT, and_true] at hp
        obtain ⟨rfl, rfl, h2, h3⟩ := hp
        have := goes_slice h ho he hE (hs.ev hx) (hs.low hl) (hs.high hu) (by omega) (by omega) (by omega) hf
        simpa using this
      · exact Sound.none
    · exact Sound.none
  · rename_i e l u ts he
    split
    · rename_i E E' len cs hE hx
      split
      · rename_i l' u' hl hu
        refine Sound.put fun hp st hs hf X a w h => ?_
        simp only [allT, and_true] at hp
        obtain ⟨rfl, rfl, h2, h3, rfl⟩ := hp
        have := goes_sliceV h ho he hE (hs.ev hx) (hs.low hl) (hs.high hu) (by omega) (by omega) (by omega) hf
        simpa using this
      · exact Sound.none
    · exact Sound.none
  · exact Sound.none
def evSA (P : Program) (lk : St) (t : TypeId) (x : Operand) : Res := match P.underlying t, lk.ev x with
  | some (.array n e), some (.pr r off) => match tySize P e, lk.rows r with
    | some E, some row => match Nat.ble (off + n * E) row.cells.length with
      | true => rput (.sr r off E n)
      | false => none
    | _, _ => none
  | _, _ => none
theorem evSA_S {t : TypeId} {x : Operand} (ho : o.op = .slice t x none none none) : Sound P o lk (evSA P lk t x) := by
  unfold evSA
  split
  · rename_i n e r off ht hx
    split
    · rename_i E row hE hr
      split
      · rename_i h1
        exact Sound.put' fun st hs hf X a w h => goes_sliceArr h ho ht hE (hs.ev hx) (hs.row hr) (Nat.le_of_ble_eq_true h1) hf
      · exact Sound.none
    · exact Sound.none
  · exact Sound.none
def sliceC : C → Bool
  | .sr _ _ _ _ | .v (.sl _ _ _) | .v (.sc (.slice none 0 0)) => true
  | _ => false
def evS0 (P : Program) (lk : St) (t : TypeId) (x hi mx : Operand) (h : H) : Res := match tyElem P t, h with
  | some e, .new id => match tySize P e, lk.ev x, lk.ev hi, lk.ev mx with
    | some E, some c, some (.v (.sc (.int k1 0))), some (.v (.sc (.int k2 0))) => match c with
      | .sr r off E' len => match Nat.beq E' E with
        | true => rnew [] (.sr id 0 E 0) id []
        | false => none
      | .v (.sl E' len cs) => rnew [] (.sr id 0 E 0) id []
      | .v (.sc (.slice none 0 0)) => rnew [] (.sr id 0 E 0) id []
      | _ => none
    | _, _, _, _ => none
  | _, _ => none
theorem evS0_S {t : TypeId} {x hi mx : Operand} {h : H} (ho : o.op = .slice t x none (some hi) (some mx)) : Sound P o lk (evS0 P lk t x hi mx h) := by
  unfold evS0
  split
  · rename_i e id he
    split
    · rename_i E c k1 k2 hE hx h1 h2
      split
      · rename_i r off E' len
        split
        · rename_i hb
          have hb := Nat.eq_of_beq_eq_true hb
          subst hb
          exact Sound.new fun _ st hs hf hu X a w h => goes_slice00 h ho he hE (hs.ev hx) (.inl ⟨r, off, len, rfl⟩) (hs.ev h1) (hs.ev h2) hu hf
        · exact Sound.none
      · rename_i E' len cs
        exact Sound.new fun _ st hs hf hu X a w h => goes_slice00 h ho he hE (hs.ev hx) (.inr (.inl ⟨E', len, cs, rfl⟩)) (hs.ev h1) (hs.ev h2) hu hf
      · exact Sound.new fun _ st hs hf hu X a w h => goes_slice00 h ho he hE (hs.ev hx) (.inr (.inr rfl)) (hs.ev h1) (hs.ev h2) hu hf
      · exact Sound.none
    · exact Sound.none
  · exact Sound.none
/-! Small ones. -/
def evEx (lk : St) (x : Operand) (i : Nat) : Res := match lk.ev x with
  | some (.tp cs) => match cs[i]? with
    | some c => rput c
    | none => none
  | _ => none
theorem evEx_S {x : Operand} {i : Nat} (ho : o.op = .extract x i) : Sound P o lk (evEx lk x i) := by
  unfold evEx
  split
  · rename_i cs hx
    split
    · rename_i c hc
      exact Sound.put' fun st hs hf X a w h => goes_extract h ho (hs.ev hx) hc hf
    · exact Sound.none
  · exact Sound.none
def evNC (lk : St) (x : Operand) : Res := match lk.ev x with
  | some c => match nonNil c with
    | true => rput c
    | false => none
  | _ => none
theorem evNC_S {x : Operand} (ho : o.op = .nilCheck x) : Sound P o lk (evNC lk x) := by
  unfold evNC
  split
  · rename_i c hx
    split
    · rename_i hc
      exact Sound.put' fun st hs hf X a w h => goes_nilCheck h ho (hs.ev hx) hc hf
    · exact Sound.none
  · exact Sound.none
def evPick (lk : St) (x y z : Operand) : Res := match lk.ev x with
  | some (.v (.sc (.bool true))) => evMv lk y
  | some (.v (.sc (.bool false))) => evMv lk z
  | _ => none
theorem evPick_S {x y z : Operand} (ho : o.op = .pick x y z) : Sound P o lk (evPick lk x y z) := by
  unfold evPick evMv
  split
  · rename_i hx
    split
    · rename_i c hy
      exact Sound.put' fun st hs hf X a w h => goes_pick h ho (hs.ev hx) (by simpa using hs.ev hy) hf
    · exact Sound.none
  · rename_i hx
    split
    · rename_i c hy
      exact Sound.put' fun st hs hf X a w h => goes_pick h ho (hs.ev hx) (by simpa using hs.ev hy) hf
    · exact Sound.none
  · exact Sound.none
def evMF (lk : St) (f : FuncId) (caps : Array Operand) : Res := match evL lk caps.toList with
  | some cs => rput (.fn f cs)
  | none => none
theorem evMF_S {f : FuncId} {caps : Array Operand} (ho : o.op = .makeFunc (.func f) #[] caps) : Sound P o lk (evMF lk f caps) := by
  unfold evMF
  split
  · rename_i cs hc
    exact Sound.put' fun st hs hf X a w h => goes_makeFunc h ho (hs.evL hc) hf
  · exact Sound.none
end
end Go.Eng
set_option linter.unusedVariables false
namespace Go.Eng
/-! Closing, lending and giving back, told with lists and conditions. -/
def memN (r : Nat) : List Nat → Bool
  | [] => false
  | s :: l => match Nat.beq s r with
    | true => true
    | false => memN r l
def dels (rows : Rows) (g : List Nat) : Rows := fun r => match memN r g with
  | true => none
  | false => rows r
abbrev Orc := List (Nat × List V × List V)
def orcL : Orc → Nat → Option (List V × List V)
  | [], _ => none
  | (s, ts, us) :: l, r => match Nat.beq s r with
    | true => some (ts, us)
    | false => orcL l r
def mapCloS (f : List Nat → C → Option (List Prop × V × List Nat)) : List Nat → List C → Option (List Prop × List V × List Nat)
  | g, [] => some ([], [], g)
  | g, c :: cs => match f g c with
    | some (ps, t, g1) => match mapCloS f g1 cs with
      | some (qs, ts, g2) => some (ps ++ qs, t :: ts, g2)
      | none => none
    | none => none
def cloS (O : Orc) (rows : Rows) : Nat → List Nat → C → Option (List Prop × V × List Nat)
  | 0, _, _ => none
  | n + 1, g, c => match c with
    | .v (.sc x) => some ([], .sc x, g)
    | .v t => some ([], .im t, g)
    | .own t => some ([], t, g)
    | .sr r off E len => match memN r g, rows r with
      | false, some row => match orcL O r with
        | some (ts, us) => match n with
          | 0 => none
          | _ + 1 => some ([row.cells = ts.map C.own, off + len * E ≤ ts.length, (ts.drop off).take (len * E) = us], .sl E len us, r :: g)
        | none => match Nat.ble (off + len * E) row.cells.length, mapCloS (cloS O rows n) (r :: g) ((row.cells.drop off).take (len * E)) with
          | true, some (ps, ts, g1) => some (ps, .sl E len ts, g1)
          | _, _ => none
      | _, _ => none
    | .pr r off => match memN r g, rows r, off with
      | false, some row, 0 => match orcL O r with
        | some (ts, us) => match n with
          | 0 => none
          | _ + 1 => some ([row.cells = us.map C.own], .bx us, r :: g)
        | none => match mapCloS (cloS O rows n) (r :: g) row.cells with
          | some (ps, ts, g1) => some (ps, .bx ts, g1)
          | none => none
      | _, _, _ => none
    | .ag cs => match mapCloS (cloS O rows n) g cs with
      | some (ps, ts, g1) => some (ps, .ag ts, g1)
      | none => none
    | .tp cs => match mapCloS (cloS O rows n) g cs with
      | some (ps, ts, g1) => some (ps, .tp ts, g1)
      | none => none
    | .fn f cs => match mapCloS (cloS O rows n) g cs with
      | some (ps, ts, g1) => some (ps, .fn f ts, g1)
      | none => none
    | .dead => none
section
variable {P : Program} {X : Ctx} {o : Oper} {lk st st' : St} {a : Act} {w w' : World} {O : Orc} {rows full : Rows}
theorem upd_dels {r : Nat} {g : List Nat} : upd (dels full g) r none = dels full (r :: g) := by
  funext j
  simp only [upd, dels, memN]
  by_cases h : j = r
  · subst h
    rw [if_pos rfl, show Nat.beq j j = true from Nat.beq_refl j]
  · rw [if_neg h, show Nat.beq r j = false by
      cases e : Nat.beq r j with
      | false => rfl
      | true => exact absurd (Nat.eq_of_beq_eq_true e).symm h]
theorem dels_nil : dels full [] = full := rfl
theorem dels_some {g : List Nat} {r : Nat} (hg : memN r g = false) : dels full g r = full r := by
  simp only [dels, hg]
theorem clo_own {n : Nat} {rows : Rows} {t : V} : clo (n + 1) rows (.own t) = some (t, rows) := rfl
theorem clo_sr {n : Nat} {rows : Rows} {r off E len : Nat} {row : Row} (h : rows r = some row) : clo (n + 1) rows (.sr r off E len) = if off + len * E ≤ row.cells.length then (mapClo (clo n) (upd rows r none) ((row.cells.drop off).take (len * E))).map fun q => (.sl E len q.1, q.2) else none := by
  rw [clo]; simp only [h]
theorem clo_pr {n : Nat} {rows : Rows} {r off : Nat} {row : Row} (h : rows r = some row) : clo (n + 1) rows (.pr r off) = if off = 0 then (mapClo (clo n) (upd rows r none) row.cells).map fun q => (.bx q.1, q.2) else none := by
  rw [clo]; simp only [h]
theorem snap_own {n : Nat} {rows : Rows} {t : V} : snap rows (n + 1) (.own t) = some t := rfl
theorem snap_sr {n : Nat} {rows : Rows} {r off E len : Nat} {row : Row} (h : rows r = some row) : snap rows (n + 1) (.sr r off E len) = if off + len * E ≤ row.cells.length then (mapSnap (snap rows n) ((row.cells.drop off).take (len * E))).map fun q => .sl E len q else none := by
  rw [snap]; simp only [h]
theorem snap_pr {n : Nat} {rows : Rows} {r off : Nat} {row : Row} (h : rows r = some row) : snap rows (n + 1) (.pr r off) = (mapSnap (snap rows n) (row.cells.drop off)).map fun q => .bx q := by
  rw [snap]; simp only [h]
theorem mapClo_own {n : Nat} : ∀ (ts : List V) (rows : Rows), mapClo (clo (n + 1)) rows (ts.map C.own) = some (ts, rows)
  | [], rows => rfl
  | t :: ts, rows => by
    simp only [List.map_cons, mapClo, clo_own, mapClo_own ts]
/-- What the list form tells of f is so. -/
def CloS (full : Rows) (f : List Nat → C → Option (List Prop × V × List Nat)) (k : Rows → C → Option (V × Rows)) : Prop := ∀ g c ps t g1, f g c = some (ps, t, g1) → allT ps → k (dels full g) c = some (t, dels full g1)
theorem mapCloS_S {f : List Nat → C → Option (List Prop × V × List Nat)} {k : Rows → C → Option (V × Rows)} (hf : CloS full f k) : ∀ (cs : List C) {g g1 : List Nat} {ps : List Prop} {ts : List V}, mapCloS f g cs = some (ps, ts, g1) → allT ps → mapClo k (dels full g) cs = some (ts, dels full g1)
  | [], g, g1, ps, ts, h, _ => by
    simp only [mapCloS, Option.some.injEq, Prod.mk.injEq] at h
    obtain ⟨_, rfl, rfl⟩ := h
    rfl
  | c :: cs, g, g1, ps, ts, h, hp => by
    simp only [mapCloS] at h
    split at h
    · rename_i ps1 t g2 h1
      split at h
      · rename_i qs ts' g3 h2
        simp only [Option.some.injEq, Prod.mk.injEq] at h
        obtain ⟨rfl, rfl, rfl⟩ := h
        rw [allT_append] at hp
        simp only [mapClo, hf _ _ _ _ _ h1 hp.1, mapCloS_S hf cs h2 hp.2]
      · cases h
    · cases h
theorem cloS_S (hr : ∀ r row, rows r = some row → full r = some row) : ∀ n, CloS full (cloS O rows n) (clo n)
  | 0 => fun g c ps t g1 h => by simp [cloS] at h
  | n + 1 => by
    intro g c ps t g1 h hp
    have ih := cloS_S hr n
    simp only [cloS] at h
    split at h
    · simp only [Option.some.injEq, Prod.mk.injEq] at h
      obtain ⟨rfl, rfl, rfl⟩ := h
      rfl
    · rename_i t' hne
      simp only [Option.some.injEq, Prod.mk.injEq] at h
      obtain ⟨rfl, rfl, rfl⟩ := h
      cases t' with
      | sc x => exact absurd rfl (hne x)
      | _ => rfl
    · simp only [Option.some.injEq, Prod.mk.injEq] at h
      obtain ⟨rfl, rfl, rfl⟩ := h
      rfl
    · rename_i r off E len
      split at h
      · rename_i row hg hrow
        have e := (dels_some (full := full) hg).trans (hr _ _ hrow)
        split at h
        · rename_i ts us ho
          split at h
          · cases h
          · rename_i m
            simp only [Option.some.injEq, Prod.mk.injEq] at h
            obtain ⟨rfl, rfl, rfl⟩ := h
            simp only [allT, and_true] at hp
            obtain ⟨e1, e2, rfl⟩ := hp
            rw [clo_sr e]
            simp only [e1, List.length_map]
            rw [if_pos e2, ← List.map_drop, ← List.map_take, mapClo_own, upd_dels]
            rfl
        · split at h
          · rename_i ps' ts' g' h1 h2
            simp only [Option.some.injEq, Prod.mk.injEq] at h
            obtain ⟨rfl, rfl, rfl⟩ := h
            rw [clo_sr e]
            rw [if_pos (Nat.le_of_ble_eq_true h1), upd_dels, mapCloS_S ih _ h2 hp]
            rfl
          · cases h
      · cases h
    · rename_i r off
      split at h
      · rename_i row hg hrow
        have e := (dels_some (full := full) hg).trans (hr _ _ hrow)
        split at h
        · rename_i ts us ho
          split at h
          · cases h
          · rename_i m
            simp only [Option.some.injEq, Prod.mk.injEq] at h
            obtain ⟨rfl, rfl, rfl⟩ := h
            simp only [allT, and_true] at hp
            rw [clo_pr e]
            rw [if_pos rfl, hp, mapClo_own, upd_dels]
            rfl
        · split at h
          · rename_i ps' ts' g' h2
            simp only [Option.some.injEq, Prod.mk.injEq] at h
            obtain ⟨rfl, rfl, rfl⟩ := h
            rw [clo_pr e]
            rw [if_pos rfl, upd_dels, mapCloS_S ih _ h2 hp]
            rfl
          · cases h
      · cases h
    · split at h
      · rename_i ps' ts' g' h2
        simp only [Option.some.injEq, Prod.mk.injEq] at h
        obtain ⟨rfl, rfl, rfl⟩ := h
        rw [clo]
        rw [mapCloS_S ih _ h2 hp]
        rfl
      · cases h
    · split at h
      · rename_i ps' ts' g' h2
        simp only [Option.some.injEq, Prod.mk.injEq] at h
        obtain ⟨rfl, rfl, rfl⟩ := h
        rw [clo]
        rw [mapCloS_S ih _ h2 hp]
        rfl
      · cases h
    · split at h
      · rename_i ps' ts' g' h2
        simp only [Option.some.injEq, Prod.mk.injEq] at h
        obtain ⟨rfl, rfl, rfl⟩ := h
        rw [clo]
        rw [mapCloS_S ih _ h2 hp]
        rfl
      · cases h
    · cases h
end
/-! Reading alone. -/
def mapSnapS (f : C → Option (List Prop × V)) : List C → Option (List Prop × List V)
  | [] => some ([], [])
  | c :: cs => match f c, mapSnapS f cs with
    | some (ps, t), some (qs, ts) => some (ps ++ qs, t :: ts)
    | _, _ => none
def snapS (O : Orc) (rows : Rows) (g : List Nat) : Nat → C → Option (List Prop × V)
  | 0, _ => none
  | n + 1, c => match c with
    | .v t => some ([], t)
    | .own t => some ([], t)
    | .sr r off E len => match memN r g, rows r with
      | false, some row => match orcL O r with
        | some (ts, us) => match n with
          | 0 => none
          | _ + 1 => some ([row.cells = ts.map C.own, off + len * E ≤ ts.length, (ts.drop off).take (len * E) = us], .sl E len us)
        | none => match Nat.ble (off + len * E) row.cells.length, mapSnapS (snapS O rows g n) ((row.cells.drop off).take (len * E)) with
          | true, some (ps, ts) => some (ps, .sl E len ts)
          | _, _ => none
      | _, _ => none
    | .pr r off => match memN r g, rows r with
      | false, some row => match orcL O r with
        | some (ts, us) => match n with
          | 0 => none
          | _ + 1 => some ([row.cells = ts.map C.own, ts.drop off = us], .bx us)
        | none => match mapSnapS (snapS O rows g n) (row.cells.drop off) with
          | some (ps, ts) => some (ps, .bx ts)
          | none => none
      | _, _ => none
    | .ag cs => match mapSnapS (snapS O rows g n) cs with
      | some (ps, ts) => some (ps, .ag ts)
      | none => none
    | .tp cs => match mapSnapS (snapS O rows g n) cs with
      | some (ps, ts) => some (ps, .tp ts)
      | none => none
    | .fn f cs => match mapSnapS (snapS O rows g n) cs with
      | some (ps, ts) => some (ps, .fn f ts)
      | none => none
    | .dead => none
section
variable {P : Program} {X : Ctx} {o : Oper} {lk st st' : St} {a : Act} {w w' : World} {O : Orc} {rows full : Rows} {g : List Nat}
theorem mapSnap_own {n : Nat} : ∀ (ts : List V), mapSnap (snap rows (n + 1)) (ts.map C.own) = some ts
  | [] => rfl
  | t :: ts => by simp only [List.map_cons, mapSnap, snap_own, mapSnap_own ts]
def SnapS (f : C → Option (List Prop × V)) (k : C → Option V) : Prop := ∀ c ps t, f c = some (ps, t) → allT ps → k c = some t
theorem mapSnapS_S {f : C → Option (List Prop × V)} {k : C → Option V} (hf : SnapS f k) : ∀ (cs : List C) {ps : List Prop} {ts : List V}, mapSnapS f cs = some (ps, ts) → allT ps → mapSnap k cs = some ts
  | [], ps, ts, h, _ => by
    simp only [mapSnapS, Option.some.injEq, Prod.mk.injEq] at h
    obtain ⟨_, rfl⟩ := h
    rfl
  | c :: cs, ps, ts, h, hp => by
    simp only [mapSnapS] at h
    split at h
    · rename_i ps1 t qs ts' h1 h2
      simp only [Option.some.injEq, Prod.mk.injEq] at h
      obtain ⟨rfl, rfl⟩ := h
      rw [allT_append] at hp
      simp only [mapSnap, hf _ _ _ h1 hp.1, mapSnapS_S hf cs h2 hp.2]
    · cases h
theorem snapS_S (hr : ∀ r row, rows r = some row → full r = some row) : ∀ n, SnapS (snapS O rows g n) (snap (dels full g) n)
  | 0 => fun c ps t h => by simp [snapS] at h
  | n + 1 => by
    intro c ps t h hp
    have ih := snapS_S hr n
    simp only [snapS] at h
    split at h
    · simp only [Option.some.injEq, Prod.mk.injEq] at h
      obtain ⟨rfl, rfl⟩ := h
      rfl
    · simp only [Option.some.injEq, Prod.mk.injEq] at h
      obtain ⟨rfl, rfl⟩ := h
      rfl
    · rename_i r off E len
      split at h
      · rename_i row hg hrow
        have e := (dels_some (full := full) hg).trans (hr _ _ hrow)
        split at h
        · rename_i ts us ho
          split at h
          · cases h
          · rename_i m
            simp only [Option.some.injEq, Prod.mk.injEq] at h
            obtain ⟨rfl, rfl⟩ := h
            simp only [allT, and_true] at hp
            obtain ⟨e1, e2, rfl⟩ := hp
            rw [snap_sr e]
            simp only [e1, List.length_map]
            rw [if_pos e2, ← List.map_drop, ← List.map_take, mapSnap_own]
            rfl
        · split at h
          · rename_i ps' ts' h1 h2
            simp only [Option.some.injEq, Prod.mk.injEq] at h
            obtain ⟨rfl, rfl⟩ := h
            rw [snap_sr e]
            rw [if_pos (Nat.le_of_ble_eq_true h1), mapSnapS_S ih _ h2 hp]
            rfl
          · cases h
      · cases h
    · rename_i r off
      split at h
      · rename_i row hg hrow
        have e := (dels_some (full := full) hg).trans (hr _ _ hrow)
        split at h
        · rename_i ts us ho
          split at h
          · cases h
          · rename_i m
            simp only [Option.some.injEq, Prod.mk.injEq] at h
            obtain ⟨rfl, rfl⟩ := h
            simp only [allT, and_true] at hp
            obtain ⟨e1, rfl⟩ := hp
            rw [snap_pr e]
            simp only [e1]
            rw [← List.map_drop, mapSnap_own]
            rfl
        · split at h
          · rename_i ps' ts' h2
            simp only [Option.some.injEq, Prod.mk.injEq] at h
            obtain ⟨rfl, rfl⟩ := h
            rw [snap_pr e]
            rw [mapSnapS_S ih _ h2 hp]
            rfl
          · cases h
      · cases h
    · split at h
      · rename_i ps' ts' h2
        simp only [Option.some.injEq, Prod.mk.injEq] at h
        obtain ⟨rfl, rfl⟩ := h
        rw [snap]
        rw [mapSnapS_S ih _ h2 hp]
        rfl
      · cases h
    · split at h
      · rename_i ps' ts' h2
        simp only [Option.some.injEq, Prod.mk.injEq] at h
        obtain ⟨rfl, rfl⟩ := h
        rw [snap]
        rw [mapSnapS_S ih _ h2 hp]
        rfl
      · cases h
    · split at h
      · rename_i ps' ts' h2
        simp only [Option.some.injEq, Prod.mk.injEq] at h
        obtain ⟨rfl, rfl⟩ := h
        rw [snap]
        rw [mapSnapS_S ih _ h2 hp]
        rfl
      · cases h
    · cases h
end
end Go.Eng
set_option linter.unusedVariables false
namespace Go.Eng
def lendLeafS (O : Orc) (rows : Rows) (fuel : Nat) (pn : Option Nat) (g : List Nat) : C → Option (List Prop × V × List Nat)
  | .v (.sc x) => some ([], .sc x, g)
  | .v t => some ([], .im t, g)
  | .sr r off E len => match memN r g, rows r with
    | false, some row => match orcL O r with
      | some (ts, us) => match fuel with
        | 0 => none
        | _ + 1 => some ([row.cells = ts.map C.own, off + len * E ≤ row.cells.length, (ts.drop off).take (len * E) = us], .sl E len us, r :: g)
      | none => match Nat.ble (off + len * E) row.cells.length, mapCloS (cloS O rows fuel) (r :: g) ((row.cells.drop off).take (len * E)) with
        | true, some (ps, ts, g1) => some (ps, .sl E len ts, g1)
        | _, _ => none
    | _, _ => none
  | .pr r off => match memN r g, rows r with
    | false, some row => match orcL O r with
      | some (ts, us) => match fuel with
        | 0 => none
        | _ + 1 => some ([row.cells = ts.map C.own, off + pn.getD (row.cells.length - off) ≤ row.cells.length, (ts.drop off).take (pn.getD (row.cells.length - off)) = us], .bx us, r :: g)
      | none => match Nat.ble (off + pn.getD (row.cells.length - off)) row.cells.length, mapCloS (cloS O rows fuel) (r :: g) ((row.cells.drop off).take (pn.getD (row.cells.length - off))) with
        | true, some (ps, ts, g1) => some (ps, .bx ts, g1)
        | _, _ => none
    | _, _ => none
  | _ => none
def lendCS (O : Orc) (rows : Rows) (fuel : Nat) (pn : Option Nat) (g : List Nat) : C → Option (List Prop × V × List Nat)
  | .ag cs => match mapCloS (lendLeafS O rows fuel none) g cs with
    | some (ps, ts, g1) => some (ps, .ag ts, g1)
    | none => none
  | .fn f cs => match mapCloS (lendLeafS O rows fuel none) g cs with
    | some (ps, ts, g1) => some (ps, .fn f ts, g1)
    | none => none
  | c => lendLeafS O rows fuel pn g c
def prepS (O : Orc) (rows : Rows) (fuel : Nat) : List Nat → List (C × Mode) → Option (List Prop × List (Option V) × List Nat)
  | g, [] => some ([], [], g)
  | g, (_, .ro) :: r => match prepS O rows fuel g r with
    | some (ps, os, g1) => some (ps, none :: os, g1)
    | none => none
  | g, (c, .io pn) :: r => match lendCS O rows fuel pn g c with
    | some (ps, t, g1) => match prepS O rows fuel g1 r with
      | some (qs, os, g2) => some (ps ++ qs, some t :: os, g2)
      | none => none
    | none => none
  | g, (c, .own) :: r => match cloS O rows fuel g c with
    | some (ps, t, g1) => match prepS O rows fuel g1 r with
      | some (qs, os, g2) => some (ps ++ qs, some t :: os, g2)
      | none => none
    | none => none
def finS (O : Orc) (rows : Rows) (fuel : Nat) (g : List Nat) : List (C × Mode) → List (Option V) → Option (List Prop × List Arg)
  | [], [] => some ([], [])
  | (c, .ro) :: r, none :: os => match snapS O rows g fuel c, finS O rows fuel g r os with
    | some (ps, t), some (qs, as) => some (ps ++ qs, .ro t :: as)
    | _, _ => none
  | (_, .io _) :: r, some t :: os => match finS O rows fuel g r os with
    | some (qs, as) => some (qs, .io t :: as)
    | none => none
  | (_, .own) :: r, some t :: os => match finS O rows fuel g r os with
    | some (qs, as) => some (qs, .own t :: as)
    | none => none
  | _, _ => none
def bkLeafS (rows : Rows) (pn : Option Nat) : C → V → Option (List Prop × List (List V))
  | .sr r _ E _, .sl E' _ ts => match rows r, Nat.beq E' E with
    | some _, true => some ([], [ts])
    | _, _ => none
  | .pr r off, .bx ts => match rows r with
    | some row => some ([ts.length = pn.getD (row.cells.length - off)], [ts])
    | none => none
  | .v _, _ => some ([], [])
  | _, _ => none
def bkLS (rows : Rows) : List C → List V → Option (List Prop × List (List V))
  | [], [] => some ([], [])
  | c :: cs, t :: ts => match bkLeafS rows none c t, bkLS rows cs ts with
    | some (ps, l), some (qs, ls) => some (ps ++ qs, l ++ ls)
    | _, _ => none
  | _, _ => none
def bkCS (rows : Rows) (pn : Option Nat) : C → V → Option (List Prop × List (List V))
  | .ag cs, .ag ts => bkLS rows cs ts
  | .fn _ cs, .fn _ ts => bkLS rows cs ts
  | .ag _, _ => none
  | .fn _ _, _ => none
  | c, t => bkLeafS rows pn c t
def bkAllS (rows : Rows) : List (C × Mode) → List V → Option (List Prop × List (List V))
  | (c, .io pn) :: r, t :: ts => match bkCS rows pn c t, bkAllS rows r ts with
    | some (ps, l), some (qs, ls) => some (ps ++ qs, l ++ ls)
    | _, _ => none
  | (_, .ro) :: r, ts => bkAllS rows r ts
  | (_, .own) :: r, ts => bkAllS rows r ts
  | [], [] => some ([], [])
  | _, _ => none
/-- Every row that is lent must be known. -/
def lnLeafS (rows : Rows) (pn : Option Nat) : C → Option (List Ln)
  | .sr r off _ _ => match rows r with
    | some row => some [⟨r, off, row.cells.length - off⟩]
    | none => none
  | .pr r off => match rows r with
    | some row => some [⟨r, off, pn.getD (row.cells.length - off)⟩]
    | none => none
  | _ => some []
def lnLS (rows : Rows) : List C → Option (List Ln)
  | [] => some []
  | c :: cs => match lnLeafS rows none c, lnLS rows cs with
    | some l, some ls => some (l ++ ls)
    | _, _ => none
def lnCS (rows : Rows) (pn : Option Nat) : C → Option (List Ln)
  | .ag cs => lnLS rows cs
  | .fn _ cs => lnLS rows cs
  | c => lnLeafS rows pn c
def lnAllS (rows : Rows) : List (C × Mode) → Option (List Ln)
  | (c, .io pn) :: r => match lnCS rows pn c, lnAllS rows r with
    | some l, some ls => some (l ++ ls)
    | _, _ => none
  | _ :: r => lnAllS rows r
  | [] => some []
def putBackS (rows : Rows) (g : List Nat) : List Nat → List Ln → List (List V) → List (List C) → Option (List Prop × List (Nat × List C))
  | _, [], [], _ => some ([], [])
  | done, ln :: ls, ts :: tss, cs :: ncs => match rows ln.r, memN ln.r g, memN ln.r done with
    | some row0, true, false => match putBackS rows g (ln.r :: done) ls tss ncs with
      | some (ps, sets) => some ((ts.length = ln.n ∨ row0.cells.length ≤ ln.off + ln.n) :: (row0.cells.take ln.off ++ ts.map C.own ++ row0.cells.drop (ln.off + ln.n) = cs) :: ps, (ln.r, cs) :: sets)
      | none => none
    | _, _, _ => none
  | _, _, _, _ => none
section
variable {P : Program} {X : Ctx} {o : Oper} {lk st st' : St} {a : Act} {w w' : World} {O : Orc} {rows full : Rows}
theorem lendLeafS_S (hr : ∀ r row, rows r = some row → full r = some row) {fuel : Nat} {pn : Option Nat} : CloS full (lendLeafS O rows fuel pn) (lendLeaf fuel pn) := by
  intro g c ps t g1 h hp
  unfold lendLeafS at h
  split at h
  · simp only [Option.some.injEq, Prod.mk.injEq] at h
    obtain ⟨rfl, rfl, rfl⟩ := h
    rfl
  · rename_i t' hne
    simp only [Option.some.injEq, Prod.mk.injEq] at h
    obtain ⟨rfl, rfl, rfl⟩ := h
    cases t' with
    | sc x => exact absurd rfl (hne x)
    | _ => rfl
  · rename_i r off E len
    split at h
    · rename_i row hg hrow
      have e := (dels_some (full := full) hg).trans (hr _ _ hrow)
      split at h
      · rename_i ts us ho
        split at h
        · cases h
        · rename_i m
          simp only [Option.some.injEq, Prod.mk.injEq] at h
          obtain ⟨rfl, rfl, rfl⟩ := h
          simp only [allT, and_true] at hp
          obtain ⟨e1, e2, rfl⟩ := hp
          simp only [lendLeaf, e]
          rw [if_pos e2, e1, ← List.map_drop, ← List.map_take, mapClo_own, upd_dels]
          rfl
      · split at h
        · rename_i ps' ts' g' h1 h2
          simp only [Option.some.injEq, Prod.mk.injEq] at h
          obtain ⟨rfl, rfl, rfl⟩ := h
          simp only [lendLeaf, e]
          rw [if_pos (Nat.le_of_ble_eq_true h1), upd_dels, mapCloS_S (cloS_S hr fuel) _ h2 hp]
          rfl
        · cases h
    · cases h
  · rename_i r off
    split at h
    · rename_i row hg hrow
      have e := (dels_some (full := full) hg).trans (hr _ _ hrow)
      split at h
      · rename_i ts us ho
        split at h
        · cases h
        · rename_i m
          simp only [Option.some.injEq, Prod.mk.injEq] at h
          obtain ⟨rfl, rfl, rfl⟩ := h
          simp only [allT, and_true] at hp
          obtain ⟨e1, e2, rfl⟩ := hp
          simp only [lendLeaf, e]
          rw [if_pos e2]
          rw [e1, ← List.map_drop, ← List.map_take, mapClo_own, upd_dels]
          rfl
      · split at h
        · rename_i ps' ts' g' h1 h2
          simp only [Option.some.injEq, Prod.mk.injEq] at h
          obtain ⟨rfl, rfl, rfl⟩ := h
          simp only [lendLeaf, e]
          rw [if_pos (Nat.le_of_ble_eq_true h1), upd_dels, mapCloS_S (cloS_S hr fuel) _ h2 hp]
          rfl
        · cases h
    · cases h
  · cases h
theorem lendCS_S (hr : ∀ r row, rows r = some row → full r = some row) {fuel : Nat} {pn : Option Nat} : CloS full (lendCS O rows fuel pn) (lendC fuel pn) := by
  intro g c ps t g1 h hp
  unfold lendCS at h
  split at h
  · split at h
    · rename_i ps' ts' g' h2
      simp only [Option.some.injEq, Prod.mk.injEq] at h
      obtain ⟨rfl, rfl, rfl⟩ := h
      simp only [lendC]
      rw [mapCloS_S (lendLeafS_S hr) _ h2 hp]
      rfl
    · cases h
  · split at h
    · rename_i ps' ts' g' h2
      simp only [Option.some.injEq, Prod.mk.injEq] at h
      obtain ⟨rfl, rfl, rfl⟩ := h
      simp only [lendC]
      rw [mapCloS_S (lendLeafS_S hr) _ h2 hp]
      rfl
    · cases h
  · rename_i h1 h2
    have e : lendC fuel pn (dels full g) c = lendLeaf fuel pn (dels full g) c := by
      cases c with
      | ag cs => exact absurd rfl (h1 cs)
      | fn f cs => exact absurd rfl (h2 f cs)
      | _ => rfl
    rw [e]
    exact lendLeafS_S hr _ _ _ _ _ h hp
theorem prepS_S (hr : ∀ r row, rows r = some row → full r = some row) {fuel : Nat} : ∀ (cms : List (C × Mode)) {g g1 : List Nat} {ps : List Prop} {os : List (Option V)}, prepS O rows fuel g cms = some (ps, os, g1) → allT ps → prepL fuel (dels full g) cms = some (os, dels full g1)
  | [], g, g1, ps, os, h, _ => by
    simp only [prepS, Option.some.injEq, Prod.mk.injEq] at h
    obtain ⟨_, rfl, rfl⟩ := h
    rfl
  | (c, .ro) :: r, g, g1, ps, os, h, hp => by
    simp only [prepS] at h
    split at h
    · rename_i ps' os' g' h1
      simp only [Option.some.injEq, Prod.mk.injEq] at h
      obtain ⟨rfl, rfl, rfl⟩ := h
      simp only [prepL, prepS_S hr r h1 hp, Option.map_some]
    · cases h
  | (c, .io pn) :: r, g, g1, ps, os, h, hp => by
    simp only [prepS] at h
    split at h
    · rename_i ps' t g' h1
      split at h
      · rename_i qs os' g2 h2
        simp only [Option.some.injEq, Prod.mk.injEq] at h
        obtain ⟨rfl, rfl, rfl⟩ := h
        rw [allT_append] at hp
        simp only [prepL, lendCS_S hr _ _ _ _ _ h1 hp.1, prepS_S hr r h2 hp.2, Option.map_some]
      · cases h
    · cases h
  | (c, .own) :: r, g, g1, ps, os, h, hp => by
    simp only [prepS] at h
    split at h
    · rename_i ps' t g' h1
      split at h
      · rename_i qs os' g2 h2
        simp only [Option.some.injEq, Prod.mk.injEq] at h
        obtain ⟨rfl, rfl, rfl⟩ := h
        rw [allT_append] at hp
        simp only [prepL, cloS_S hr fuel _ _ _ _ _ h1 hp.1, prepS_S hr r h2 hp.2, Option.map_some]
      · cases h
    · cases h
theorem finS_S (hr : ∀ r row, rows r = some row → full r = some row) {fuel : Nat} {g : List Nat} : ∀ (cms : List (C × Mode)) {os : List (Option V)} {ps : List Prop} {as : List Arg}, finS O rows fuel g cms os = some (ps, as) → allT ps → finL fuel (dels full g) cms os = some as
  | [], os, ps, as, h, _ => by
    cases os with
    | nil =>
      simp only [finS, Option.some.injEq, Prod.mk.injEq] at h
      obtain ⟨_, rfl⟩ := h
      rfl
    | cons => simp [finS] at h
  | (c, .ro) :: r, os, ps, as, h, hp => by
    cases os with
    | nil => simp [finS] at h
    | cons x os =>
      cases x with
      | some t => simp [finS] at h
      | none =>
        simp only [finS] at h
        split at h
        · rename_i ps' t qs as' h1 h2
          simp only [Option.some.injEq, Prod.mk.injEq] at h
          obtain ⟨rfl, rfl⟩ := h
          rw [allT_append] at hp
          simp only [finL, snapS_S hr fuel _ _ _ h1 hp.1, finS_S hr r h2 hp.2]
        · cases h
  | (c, .io pn) :: r, os, ps, as, h, hp => by
    cases os with
    | nil => simp [finS] at h
    | cons x os =>
      cases x with
      | none => simp [finS] at h
      | some t =>
        simp only [finS] at h
        split at h
        · rename_i qs as' h2
          simp only [Option.some.injEq, Prod.mk.injEq] at h
          obtain ⟨rfl, rfl⟩ := h
          simp only [finL, finS_S hr r h2 hp, Option.map_some]
        · cases h
  | (c, .own) :: r, os, ps, as, h, hp => by
    cases os with
    | nil => simp [finS] at h
    | cons x os =>
      cases x with
      | none => simp [finS] at h
      | some t =>
        simp only [finS] at h
        split at h
        · rename_i qs as' h2
          simp only [Option.some.injEq, Prod.mk.injEq] at h
          obtain ⟨rfl, rfl⟩ := h
          simp only [finL, finS_S hr r h2 hp, Option.map_some]
        · cases h
theorem bkLeafS_S (hr : ∀ r row, rows r = some row → full r = some row) {pn : Option Nat} {c : C} {t : V} {ps : List Prop} {l : List (List V)} (h : bkLeafS rows pn c t = some (ps, l)) (hp : allT ps) : bkLeaf full pn c t = some l := by
  unfold bkLeafS at h
  split at h
  · split at h
    · rename_i row h1 h2
      simp only [Option.some.injEq, Prod.mk.injEq] at h
      obtain ⟨rfl, rfl⟩ := h
      simp only [bkLeaf, hr _ _ h1, Nat.eq_of_beq_eq_true h2, if_true]
    · cases h
  · split at h
    · rename_i row h1
      simp only [Option.some.injEq, Prod.mk.injEq] at h
      obtain ⟨rfl, rfl⟩ := h
      simp only [allT, and_true] at hp
      simp only [bkLeaf, hr _ _ h1]
      rw [if_pos hp]
    · cases h
  · simp only [Option.some.injEq, Prod.mk.injEq] at h
    obtain ⟨rfl, rfl⟩ := h
    simp only [bkLeaf]
  · cases h
theorem bkLS_S (hr : ∀ r row, rows r = some row → full r = some row) : ∀ {cs : List C} {ts : List V} {ps : List Prop} {l : List (List V)}, bkLS rows cs ts = some (ps, l) → allT ps → bkL full cs ts = some l
  | [], ts, ps, l, h, hp => by
    cases ts with
    | nil =>
      simp only [bkLS, Option.some.injEq, Prod.mk.injEq] at h
      obtain ⟨rfl, rfl⟩ := h
      rfl
    | cons => simp [bkLS] at h
  | c :: cs, ts, ps, l, h, hp => by
    cases ts with
    | nil => simp [bkLS] at h
    | cons t ts =>
      simp only [bkLS] at h
      split at h
      · rename_i ps' l' qs ls h1 h2
        simp only [Option.some.injEq, Prod.mk.injEq] at h
        obtain ⟨rfl, rfl⟩ := h
        rw [allT_append] at hp
        simp only [bkL, bkLeafS_S hr h1 hp.1, bkLS_S hr h2 hp.2]
      · cases h
theorem bkCS_S (hr : ∀ r row, rows r = some row → full r = some row) {pn : Option Nat} {c : C} {t : V} {ps : List Prop} {l : List (List V)} (h : bkCS rows pn c t = some (ps, l)) (hp : allT ps) : bkC full pn c t = some l := by
  unfold bkCS at h
  split at h
  · simp only [bkC]
    exact bkLS_S hr h hp
  · simp only [bkC]
    exact bkLS_S hr h hp
  · cases h
  · cases h
  · rename_i h1 h2 h3 h4
    have e : bkC full pn c t = bkLeaf full pn c t := by
      cases c with
      | ag cs => exact (by first | exact absurd rfl (h1 cs) | exact absurd rfl (h2 cs) | exact absurd rfl (h3 cs) | exact absurd rfl (h4 cs) | skip)
      | fn f cs => exact (by first | exact absurd rfl (h1 f cs) | exact absurd rfl (h2 f cs) | exact absurd rfl (h3 f cs) | exact absurd rfl (h4 f cs) | skip)
      | _ => rfl
    rw [e]
    exact bkLeafS_S hr h hp
theorem bkAllS_S (hr : ∀ r row, rows r = some row → full r = some row) : ∀ {cms : List (C × Mode)} {ts : List V} {ps : List Prop} {l : List (List V)}, bkAllS rows cms ts = some (ps, l) → allT ps → bkAll full cms ts = some l
  | [], ts, ps, l, h, hp => by
    cases ts with
    | nil =>
      simp only [bkAllS, Option.some.injEq, Prod.mk.injEq] at h
      obtain ⟨rfl, rfl⟩ := h
      rfl
    | cons => simp [bkAllS] at h
  | (c, .ro) :: r, ts, ps, l, h, hp => by
    simp only [bkAllS] at h
    simp only [bkAll]
    exact bkAllS_S hr h hp
  | (c, .own) :: r, ts, ps, l, h, hp => by
    simp only [bkAllS] at h
    simp only [bkAll]
    exact bkAllS_S hr h hp
  | (c, .io pn) :: r, ts, ps, l, h, hp => by
    cases ts with
    | nil => simp [bkAllS] at h
    | cons t ts =>
      simp only [bkAllS] at h
      split at h
      · rename_i ps' l' qs ls h1 h2
        simp only [Option.some.injEq, Prod.mk.injEq] at h
        obtain ⟨rfl, rfl⟩ := h
        rw [allT_append] at hp
        simp only [bkAll, bkCS_S hr h1 hp.1, bkAllS_S hr h2 hp.2]
      · cases h
theorem lnLeafS_S (hr : ∀ r row, rows r = some row → full r = some row) {pn : Option Nat} {c : C} {l : List Ln} (h : lnLeafS rows pn c = some l) : lnsLeaf full pn c = l := by
  unfold lnLeafS at h
  split at h
  · split at h
    · rename_i row h1
      simp only [Option.some.injEq] at h
      subst h
      simp only [lnsLeaf, hr _ _ h1]
    · cases h
  · split at h
    · rename_i row h1
      simp only [Option.some.injEq] at h
      subst h
      simp only [lnsLeaf, hr _ _ h1]
    · cases h
  · rename_i h1 h2
    simp only [Option.some.injEq] at h
    subst h
    cases c with
    | sr r off E len => exact absurd rfl (h1 r off E len)
    | pr r off => exact absurd rfl (h2 r off)
    | _ => rfl
theorem lnLS_S (hr : ∀ r row, rows r = some row → full r = some row) : ∀ {cs : List C} {l : List Ln}, lnLS rows cs = some l → cs.flatMap (lnsLeaf full none) = l
  | [], l, h => by
    simp only [lnLS, Option.some.injEq] at h
    subst h
    rfl
  | c :: cs, l, h => by
    simp only [lnLS] at h
    split at h
    · rename_i l' ls h1 h2
      simp only [Option.some.injEq] at h
      subst h
      simp only [List.flatMap_cons, lnLeafS_S hr h1, lnLS_S hr h2]
    · cases h
theorem lnCS_S (hr : ∀ r row, rows r = some row → full r = some row) {pn : Option Nat} {c : C} {l : List Ln} (h : lnCS rows pn c = some l) : lnsC full pn c = l := by
  unfold lnCS at h
  split at h
  · simp only [lnsC]
    exact lnLS_S hr h
  · simp only [lnsC]
    exact lnLS_S hr h
  · rename_i h1 h2
    have e : lnsC full pn c = lnsLeaf full pn c := by
      cases c with
      | ag cs => exact absurd rfl (h1 cs)
      | fn f cs => exact absurd rfl (h2 f cs)
      | _ => rfl
    rw [e]
    exact lnLeafS_S hr h
theorem lnAllS_S (hr : ∀ r row, rows r = some row → full r = some row) : ∀ {cms : List (C × Mode)} {l : List Ln}, lnAllS rows cms = some l → lnsAll full cms = l
  | [], l, h => by
    simp only [lnAllS, Option.some.injEq] at h
    subst h
    rfl
  | (c, .ro) :: r, l, h => by
    simp only [lnAllS] at h
    simp only [lnsAll]
    exact lnAllS_S hr h
  | (c, .own) :: r, l, h => by
    simp only [lnAllS] at h
    simp only [lnsAll]
    exact lnAllS_S hr h
  | (c, .io pn) :: r, l, h => by
    simp only [lnAllS] at h
    split at h
    · rename_i l' ls h1 h2
      simp only [Option.some.injEq] at h
      subst h
      simp only [lnsAll, lnCS_S hr h1, lnAllS_S hr h2]
    · cases h
theorem putBackS_S (hr : ∀ r row, rows r = some row → full r = some row) {g : List Nat} : ∀ (ls : List Ln) {done : List Nat} {tss : List (List V)} {ncs : List (List C)} {ps : List Prop} {sets : List (Nat × List C)} {cur : Rows}, putBackS rows g done ls tss ncs = some (ps, sets) → allT ps → (∀ r, memN r g = true → memN r done = false → cur r = none) → putBack full cur ls tss = some (setRows cur sets)
  | [], done, tss, ncs, ps, sets, cur, h, _, _ => by
    cases tss with
    | nil =>
      simp only [putBackS, Option.some.injEq, Prod.mk.injEq] at h
      obtain ⟨_, rfl⟩ := h
      rfl
    | cons => simp [putBackS] at h
  | ln :: ls, done, tss, ncs, ps, sets, cur, h, hp, hc => by
    cases tss with
    | nil => simp [putBackS] at h
    | cons ts tss =>
      cases ncs with
      | nil => simp [putBackS] at h
      | cons cs ncs =>
        simp only [putBackS] at h
        split at h
        · rename_i row0 h1 h2 h3
          split at h
          · rename_i ps' sets' h4
            simp only [Option.some.injEq, Prod.mk.injEq] at h
            obtain ⟨rfl, rfl⟩ := h
            simp only [allT] at hp
            obtain ⟨p1, rfl, p3⟩ := hp
            simp only [putBack, hr _ _ h1, hc _ h2 h3]
            rw [if_pos p1]
            refine putBackS_S hr ls h4 p3 ?_
            intro r hg hd
            simp only [memN] at hd
            split at hd
            · cases hd
            · rename_i hb
              have hne : r ≠ ln.r := by
                rintro rfl
                rw [show Nat.beq ln.r ln.r = true from Nat.beq_refl _] at hb
                cases hb
              rw [upd_ne hne]
              exact hc r hg hd
          · cases h
        · cases h
end
end Go.Eng
set_option linter.unusedVariables false
namespace Go.Eng
open Go.RowKit (Below)
/-- The function can be entered and keeps the contract. -/
def CallOK (P : Program) (f : FuncId) (args : List Arg) (outs : List V) (res : V) : Prop := enterable P f = true ∧ Contract P f args outs res
/-- What is told of a call: the modes, how deep, what closed rows hold, whether all that is read alone is such that nobody writes it, what comes back, what lent rows hold then, the first free number. -/
structure CH where
  modes : List Mode
  fuel : Nat
  O : Orc
  imm : Bool
  outs : List V
  res : V
  nc : List (List C)
  base : Nat
def matSet : Nat → List (List C) → List (Nat × List C)
  | _, [] => []
  | n, c :: cs => (n, c) :: matSet (n + 1) cs
def matNew : Nat → List (List C) → List Nat
  | _, [] => []
  | n, _ :: cs => n :: matNew (n + 1) cs
def immS (k : CH) (cms : List (C × Mode)) : Option (List Prop) := match k.imm with
  | true => (match allImm cms with
    | true => some []
    | false => none)
  | false => some [(noImL k.outs && noIm k.res) = true]
section
variable {P : Program} {X : Ctx} {o : Oper} {lk st st' : St} {a : Act} {w w' : World} {rows : Rows}
theorem setRows_append : ∀ (l k : List (Nat × List C)) (rows : Rows), setRows rows (l ++ k) = setRows (setRows rows l) k
  | [], _, _ => rfl
  | (r, cs) :: l, k, rows => setRows_append l k _
theorem addRows_set : ∀ (cs : List (List C)) (n : Nat) (rows : Rows), addRows rows n cs = setRows rows (matSet n cs)
  | [], _, _ => rfl
  | c :: cs, n, rows => addRows_set cs (n + 1) _
theorem addUsed_new : ∀ (cs : List (List C)) (n : Nat) (u : Nat → Bool), addUsed u n cs = newUsed u (matNew n cs)
  | [], _, _ => rfl
  | c :: cs, n, u => addUsed_new cs (n + 1) _
theorem matNew_mem : ∀ (cs : List (List C)) (n j : Nat), n ≤ j → j < n + cs.length → j ∈ matNew n cs
  | [], n, j, h1, h2 => by simp at h2; omega
  | c :: cs, n, j, h1, h2 => by
    simp only [matNew, List.mem_cons]
    rcases Nat.eq_or_lt_of_le h1 with h | h
    · exact .inl h.symm
    · exact .inr (matNew_mem cs (n + 1) j h (by simp only [List.length_cons] at h2; omega))
theorem delRows_dels : ∀ (g : List Nat) (rows : Rows), delRows rows g = dels rows g
  | [], _ => rfl
  | r :: g, rows => by
    simp only [delRows]
    rw [delRows_dels g]
    funext j
    simp only [dels, memN, upd]
    by_cases h : j = r
    · subst h
      rw [if_pos rfl, show Nat.beq j j = true from Nat.beq_refl j]
      split <;> rfl
    · rw [if_neg h, show Nat.beq r j = false by
        cases e : Nat.beq r j with
        | false => rfl
        | true => exact absurd (Nat.eq_of_beq_eq_true e).symm h]
def evCall (P : Program) (lk : St) (call : Call) (k : CH) : Res := match call.callee with
  | .value fo => match lk.ev fo, evL lk call.args.toList with
    | some (.fn f caps), some cs => match prepS k.O lk.rows k.fuel [] ((cs ++ caps).zip k.modes), Nat.beq k.modes.length (cs ++ caps).length, lnAllS lk.rows ((cs ++ caps).zip k.modes) with
      | some (p1, os, g), true, some lns => match finS k.O lk.rows k.fuel g ((cs ++ caps).zip k.modes) os, bkAllS lk.rows ((cs ++ caps).zip k.modes) k.outs with
        | some (p2, args), some (p3, tss) => match putBackS lk.rows g [] lns tss k.nc, immS k ((cs ++ caps).zip k.modes) with
          | some (p4, sets), some p5 => some (CallOK P f args k.outs k.res :: (p1 ++ (p2 ++ (p3 ++ (p4 ++ p5)))), ⟨some (mat k.res k.base).1, g, sets ++ matSet k.base (mat k.res k.base).2, matNew k.base (mat k.res k.base).2⟩)
          | _, _ => none
        | _, _ => none
      | _, _, _ => none
    | _, _ => none
  | _ => none
theorem evCall_S {call : Call} {k : CH} (ho : o.op = .call call) : Sound P o lk (evCall P lk call k) := by
  unfold evCall
  split
  · rename_i fo hca
    split
    · rename_i f caps cs hfo hcs
      split
      · rename_i p1 os g lns h1 hmd h2
        split
        · rename_i p2 args p3 tss h3 h4
          split
          · rename_i p4 sets p5 h5 h6
            intro cs' d e hc st hs hf hn X a w h
            simp only [Option.some.injEq, Prod.mk.injEq] at e
            obtain ⟨rfl, rfl⟩ := e
            simp only [allT, allT_append] at hc
            obtain ⟨⟨c0, c0'⟩, c1, c2, c3, c4, c5⟩ := hc
            have hr : ∀ r row, lk.rows r = some row → st.rows r = some row := hs.rows
            have q1 := prepS_S hr _ h1 c1
            have q2 := finS_S hr _ h3 c2
            have q3 := bkAllS_S hr h4 c3
            have q4 := lnAllS_S hr h2
            have q5 := putBackS_S hr lns (cur := dels st.rows g) h5 c4 (fun r hg _ => by simp only [dels, hg])
            rw [dels_nil] at q1
            have hcr : CallR st k.fuel ((cs ++ caps).zip k.modes) args k.outs k.res k.base (setRows (dels st.rows g) sets) := by
              refine ⟨⟨os, _, tss, q1, q2, q3, by rw [q4]; exact q5⟩, ?_, fun j hj1 hj2 => hn j (matNew_mem _ _ _ hj1 hj2)⟩
              unfold immS at h6
              split at h6
              · split at h6
                · rename_i h7; exact .inl h7
                · cases h6
              · simp only [Option.some.injEq] at h6
                subst h6
                simp only [allT, and_true] at c5
                exact .inr c5
            have := goes_call h ho hca (hs.ev hfo) (hs.evL hcs) c0 (Nat.eq_of_beq_eq_true hmd) c0' hcr hf
            simp only [St.app, St.putO]
            rw [delRows_dels, setRows_append, ← addRows_set, ← addUsed_new]
            exact this
          · exact Sound.none
        · exact Sound.none
      · exact Sound.none
    · exact Sound.none
  · exact Sound.none
/-! len. -/
def evLen (P : Program) (lk : St) (call : Call) (h : H) : Res := match call.args.toList, call.argTypes.toList with
  | [x], [t] => match tyElem P t, lk.ev x with
    | some e, some c => match lenC c with
      | some n => clm (.int .i64 n) h
      | none => none
    | _, _ => none
  | _, _ => none
theorem arr_of {α : Type} {A : Array α} {l : List α} (h : A.toList = l) : A = l.toArray := by rw [← h]
theorem evLen_S {call : Call} {h : H} (ho : o.op = .call call) (hca : call.callee = .builtin .len) : Sound P o lk (evLen P lk call h) := by
  unfold evLen
  split
  · rename_i x t hx ht
    split
    · rename_i e c he hc
      split
      · rename_i n hn
        exact clm_S fun st hs hf X a w h => goes_len h ho hca (arr_of hx) (arr_of ht) he (hs.ev hc) hn hf
      · exact Sound.none
    · exact Sound.none
  · exact Sound.none
/-! append. -/
theorem goes_appendNil' (h : R X st a w) {call : Call} {x y : Operand} {t u e : TypeId} {E m Bt id : Nat} {c : C} {ds : List C} {zs : List Value} (ho : o.op = .call call) (hca : call.callee = .builtin .append) (hargs : call.args = #[x, y]) (hty : call.argTypes = #[t, u]) (ht : tyElem P t = some e) (hu : notInt P u = true)
    (hE : tySize P e = some E) (hB : tyBytes P e = some Bt) (hB0 : 0 < Bt) (hz : tyZero P e = some zs) (hzn : zs.length = E) (hx : st.ev x = some (.v (.sc (.slice none 0 0)))) (hy : st.ev y = some c) (hs : srcC st.rows E c = some (m, ds)) (h1 : ds.all oneC = true) (hbig : m * Bt ≤ 140737488355328)
    (hid : st.used id = false) (hd : st.fits o.dst) :
    Goes P X o a w { st.put o.dst (.sr id 0 E m) with rows := upd st.rows id (some ⟨ds.map toCell⟩), used := upd st.used id true } := by
  rcases Nat.eq_zero_or_pos m with rfl | hm
  · obtain ⟨ρ, Fp, m1, m2⟩ := h.mem
    have e1 := ev_sc h hx
    obtain ⟨f1, f2⟩ := ev_eval m2 hy
    obtain ⟨vs, g1, g2, g3, g4, g5⟩ := srcC_R m1 f1 f2 hs
    have g7 := CRL_length g2
    have hds : ds = [] := List.length_eq_zero_iff.1 (by rw [← g7, g1]; simp)
    subst hds
    have hfirst := g5 w 0 (fun _ => rfl) (Nat.le_refl _)
    simp only [Nat.zero_mul, List.take_zero] at hfirst
    have n1 : Mem X.S X.K X.B (upd st.rows id (some ⟨[]⟩)) (upd st.used id true) (upd ρ id ⟨0, 0, 0⟩) (upd Fp id FS.none) w := m1.add (G := FS.none) hid (by simp only [RowR]) (by simp only [C.okL]) (by simp) (fun b o ⟨_, h2, h3⟩ => by simp at h3) FS.none_sub FS.dis_none (fun j hj => by simp at hj) (fun _ _ _ => FS.none_dis) FS.none_dis (fun _ _ hf => hf.elim)
    refine goes_value (v := .slice none 0 0) (w' := w) (exec_append ho hca hargs hty ?_) (h.step m2 hd (Below.refl _ _) Same.refl n1 (plOf_fresh hid fun _ _ => _root_.id) used_upd ?_ (by simp only [C.ok, upd_self]))
    · rw [e1]
      exact run_append_zero ht hu hE g4 hfirst
    · simp only [CR]
      exact ⟨none, 0, rfl, Nat.le_refl _, fun _ _ => .inl rfl⟩
  · exact goes_appendNil h ho hca hargs hty ht hu hE hB hB0 hz hzn hx hy hs h1 hm hbig hid hd
/-- What is appended: conditions, how many, cells. -/
def srcS (rows : Rows) (E : Nat) (c : C) : Option (List C) → Option (List Prop × Nat × List C)
  | none => match srcC rows E c with
    | some (m, ds) => match ds.all oneC with
      | true => some ([], m, ds)
      | false => none
    | none => none
  | some ds => match c with
    | .sr r off E' m => match rows r, Nat.beq E' E with
      | some row, true => some ([off + m * E ≤ row.cells.length, readL ((row.cells.drop off).take (m * E)) = some ds, ds.all oneC = true], m, ds)
      | _, _ => none
    | .v (.sl _ m cs) => some ([cs.length = m * E, cs.map C.v = ds, ds.all oneC = true], m, ds)
    | _ => none
theorem srcS_S {rows full : Rows} (hr : ∀ r row, rows r = some row → full r = some row) {E m : Nat} {c : C} {hd : Option (List C)} {ps : List Prop} {ds : List C} (h : srcS rows E c hd = some (ps, m, ds)) (hp : allT ps) : srcC full E c = some (m, ds) ∧ ds.all oneC = true := by
  unfold srcS at h
  split at h
  · split at h
    · rename_i m' ds' h1
      split at h
      · rename_i h2
        simp only [Option.some.injEq, Prod.mk.injEq] at h
        obtain ⟨rfl, rfl, rfl⟩ := h
        refine ⟨?_, h2⟩
        unfold srcC at h1
        split at h1
        · split at h1
          · rename_i row h3
            simp only [srcC, hr _ _ h3]
            exact h1
          · cases h1
        · exact h1
        · exact h1
        · exact h1
        · cases h1
      · cases h
    · cases h
  · split at h
    · rename_i r off E' m'
      split at h
      · rename_i row h1 h2
        simp only [Option.some.injEq, Prod.mk.injEq] at h
        obtain ⟨rfl, rfl, rfl⟩ := h
        simp only [allT, and_true] at hp
        obtain ⟨p1, p2, p3⟩ := hp
        refine ⟨?_, p3⟩
        simp only [srcC, hr _ _ h1]
        rw [if_pos ⟨Nat.eq_of_beq_eq_true h2, p1⟩, p2]
        rfl
      · cases h
    · rename_i E' m' cs
      simp only [Option.some.injEq, Prod.mk.injEq] at h
      obtain ⟨rfl, rfl, rfl⟩ := h
      simp only [allT, and_true] at hp
      obtain ⟨p1, rfl, p3⟩ := hp
      refine ⟨?_, p3⟩
      simp only [srcC]
      rw [if_pos p1]
    · cases h
def appH : H → Option (Nat × Option (List C) × List C)
  | .app id cs => some (id, none, cs)
  | .apd id ds cs => some (id, some ds, cs)
  | _ => none
def evApp (P : Program) (lk : St) (call : Call) (h : H) : Res := match call.args.toList, call.argTypes.toList, appH h with
  | [x, y], [t, u], some (id, dso, cs) => match tyElem P t, lk.ev x, lk.ev y with
    | some e, some cx, some cy => match tySize P e, tyBytes P e, tyZero P e, notInt P u with
      | some E, some Bt, some zs, true => match Nat.beq zs.length E, Nat.blt 0 Bt, srcS lk.rows E cy dso with
        | true, true, some (ps, m, ds) => match cx with
          | .sr r off E' len => match lk.rows r, Nat.beq E' E with
            | some row, true => some (ps ++ [off + len * E ≤ row.cells.length, (len + m) * Bt ≤ 140737488355328, (row.cells.drop off).take (len * E) ++ ds.map toCell = cs], ⟨some (.sr id 0 E (len + m)), [r], [(id, cs)], [id]⟩)
            | _, _ => none
          | .v (.sc (.slice none 0 0)) => some (ps ++ [m * Bt ≤ 140737488355328, ds.map toCell = cs], ⟨some (.sr id 0 E m), [], [(id, cs)], [id]⟩)
          | _ => none
        | _, _, _ => none
      | _, _, _, _ => none
    | _, _, _ => none
  | _, _, _ => none
theorem evApp_S {call : Call} {h : H} (ho : o.op = .call call) (hca : call.callee = .builtin .append) : Sound P o lk (evApp P lk call h) := by
  unfold evApp
  split
  · rename_i x y t u id dso cs hx ht hh
    split
    · rename_i e cx cy he hcx hcy
      split
      · rename_i E Bt zs hE hB hz hu
        split
        · rename_i ps m ds h1 h2 h3
          have h1 := Nat.eq_of_beq_eq_true h1
          have h2 : 1 ≤ Bt := Nat.le_of_ble_eq_true h2
          split
          · rename_i r off E' len
            split
            · rename_i row hrow h4
              have h4 := Nat.eq_of_beq_eq_true h4
              subst h4
              intro cs' d e hc st hs hf hn X a w h
              simp only [Option.some.injEq, Prod.mk.injEq] at e
              obtain ⟨rfl, rfl⟩ := e
              simp only [allT, allT_append, and_true] at hc
              obtain ⟨c0, c1, c2, rfl⟩ := hc
              obtain ⟨k1, k2⟩ := srcS_S hs.rows h3 c0
              exact goes_append h ho hca (arr_of hx) (arr_of ht) he hu hE hB h2 hz h1 (hs.ev hcx) (hs.row hrow) c1 (hs.ev hcy) k1 k2 c2 (hn id (by simp)) hf
            · exact Sound.none
          · intro cs' d e hc st hs hf hn X a w h
            simp only [Option.some.injEq, Prod.mk.injEq] at e
            obtain ⟨rfl, rfl⟩ := e
            simp only [allT, allT_append, and_true] at hc
            obtain ⟨c0, c1, rfl⟩ := hc
            obtain ⟨k1, k2⟩ := srcS_S hs.rows h3 c0
            exact goes_appendNil' h ho hca (arr_of hx) (arr_of ht) he hu hE hB h2 hz h1 (hs.ev hcx) (hs.ev hcy) k1 k2 c1 (hn id (by simp)) hf
          · exact Sound.none
        · exact Sound.none
      · exact Sound.none
    · exact Sound.none
  · exact Sound.none
/-! copy. -/
def copyH : H → Option (Option (List C) × List C)
  | .cells cs => some (none, cs)
  | .apd _ ds cs => some (some ds, cs)
  | _ => none
def evCopy (P : Program) (lk : St) (call : Call) (h : H) : Res := match call.args.toList, call.argTypes.toList, copyH h with
  | [x, y], [t, u], some (dso, cs) => match tyElem P t, lk.ev x, lk.ev y with
    | some e, some (.sr r off E' len), some cy => match tySize P e with
      | some E => match srcS lk.rows E cy dso, Nat.beq E' E, lk.rows r with
        | some (ps, m, ds), true, some row => some (ps ++ [off + len * E ≤ row.cells.length, 0 < len, setRange row.cells off ((ds.take (Nat.min m len * E)).map toCell) = cs], ⟨some (.v (.sc (.int .i64 (Nat.min m len)))), [], [(r, cs)], []⟩)
        | _, _, _ => none
      | _ => none
    | _, _, _ => none
  | _, _, _ => none
theorem evCopy_S {call : Call} {h : H} (ho : o.op = .call call) (hca : call.callee = .builtin .copy) : Sound P o lk (evCopy P lk call h) := by
  unfold evCopy
  split
  · rename_i x y t u dso cs hx ht hh
    split
    · rename_i e r off E' len cy he hcx hcy
      split
      · rename_i E hE
        split
        · rename_i ps m ds row h3 h4 hrow
          have h4 := Nat.eq_of_beq_eq_true h4
          subst h4
          intro cs' d e hc st hs hf hn X a w h
          simp only [Option.some.injEq, Prod.mk.injEq] at e
          obtain ⟨rfl, rfl⟩ := e
          simp only [allT, allT_append, and_true] at hc
          obtain ⟨c0, c1, c2, rfl⟩ := hc
          obtain ⟨k1, k2⟩ := srcS_S hs.rows h3 c0
          exact goes_copy h ho hca (arr_of hx) (arr_of ht) he hE (hs.ev hcx) (hs.row hrow) c1 (hs.ev hcy) k1 k2 c2 hf
        · exact Sound.none
      · exact Sound.none
    · exact Sound.none
  · exact Sound.none
end
end Go.Eng
set_option linter.unusedVariables false
namespace Go.Eng
/-! More operations: pointers against nil, strings, the smaller and the greater one, cells that are opened by a load and closed by a store. -/
def nonNilP : C → Bool
  | .pr _ _ | .v (.bx _) => true
  | _ => false
def tyPtr (P : Program) (t : TypeId) : Bool := match P.underlying t with
  | some (.pointer _) => true
  | _ => false
def tyStr (P : Program) (t : TypeId) : Bool := match P.underlying t with
  | some .string => true
  | _ => false
def evNil (P : Program) (lk : St) (op : BinOp) (t : TypeId) (x y : Operand) : Res := match lk.ev x, lk.ev y, tyPtr P t, op with
  | some c, some (.v (.sc (.pointer none))), true, .eql => match nonNilP c with
    | true => rput (.v (.sc (.bool false)))
    | false => none
  | some c, some (.v (.sc (.pointer none))), true, .neq => match nonNilP c with
    | true => rput (.v (.sc (.bool true)))
    | false => none
  | _, _, _, _ => none
def evSAd (lk : St) (op : BinOp) (x y : Operand) : Res := match lk.ev x, lk.ev y, op with
  | some (.v (.sc (.string a))), some (.v (.sc (.string b))), .add => rputc [a.size + b.size ≤ 9223372036854775807] (.v (.sc (.string (a ++ b))))
  | _, _, _ => none
/-- The byte at a place. -/
def bt (s : ByteArray) (j : Nat) : Int := ((s[j]?.getD 0).toNat : Int)
def evSI (P : Program) (lk : St) (t : TypeId) (x y : Operand) (j : Nat) : Res := match lk.ev x, lk.ev y, tyStr P t with
  | some (.v (.sc (.string s))), some (.v (.sc (.int k i))), true => rputc [i = (j : Int), j < s.size] (.v (.sc (.int .u8 (bt s j))))
  | _, _, _ => none
def evSS (P : Program) (lk : St) (t : TypeId) (x : Operand) (lo hi : Option Operand) (l u : Nat) : Res := match lk.ev x, tyStr P t with
  | some (.v (.sc (.string s))), true => match lowOf lk lo, highOf lk s.size hi with
    | some l', some u' => rputc [l' = (l : Int), u' = (u : Int), l ≤ u, u ≤ s.size] (.v (.sc (.string (s.extract l u))))
    | _, _ => none
  | _, _ => none
def evLenS (P : Program) (lk : St) (call : Call) (h : H) : Res := match call.args.toList, call.argTypes.toList with
  | [x], [t] => match tyStr P t, lk.ev x with
    | true, some (.v (.sc (.string s))) => clm (.int .i64 s.size) h
    | _, _ => none
  | _, _ => none
def evMM (lk : St) (mx : Bool) (call : Call) : Res := match call.args.toList with
  | [x, y] => match lk.ev x, lk.ev y with
    | some (.v (.sc (.int k a))), some (.v (.sc (.int k' b))) => match mx with
      | true => rput (.v (.sc (.int k (if a < b then b else a))))
      | false => rput (.v (.sc (.int k (if b < a then b else a))))
    | _, _ => none
  | _ => none
section
variable {P : Program} {X : Ctx} {o : Oper} {lk st st' : St} {a : Act} {w w' : World}
theorem tyPtr_S {t : TypeId} (h : tyPtr P t = true) : ∃ e, P.underlying t = some (.pointer e) := by
  unfold tyPtr at h
  split at h
  · exact ⟨_, by assumption⟩
  · cases h
theorem tyStr_S {t : TypeId} (h : tyStr P t = true) : P.underlying t = some .string := by
  unfold tyStr at h
  split at h
  · assumption
  · cases h
theorem nonNilP_S {S : FS} {pl : Nat → Option Pl} {c : C} {x : Value} (h : CR S w pl c x) (hn : nonNilP c = true) : ∃ p, x = .pointer (some p) := by
  cases c with
  | pr r off => simp only [CR] at h; obtain ⟨p, e1, _⟩ := h; exact ⟨p, e1⟩
  | v t =>
    cases t with
    | bx cs => simp only [CR, VI] at h; obtain ⟨b, p, e1, _⟩ := h; exact ⟨_, e1⟩
    | _ => simp [nonNilP] at hn
  | _ => simp [nonNilP] at hn
theorem run_eqNil {t e : TypeId} {p : Addr} (ht : P.underlying t = some (.pointer e)) : (Op.equal t (.pointer (some p)) (.pointer none)).run P w = .ok false w := by
  unfold Op.equal Op.maxDepth Op.equalIn
  simp only [Sem.run_bind, run_underlying ht, Result.andThen_ok, Sem.run_pure]
theorem evNil_S {op : BinOp} {x y : Operand} {t t' : TypeId} (ho : o.op = .binOp op t x y t') : Sound P o lk (evNil P lk op t x y) := by
  unfold evNil
  split
  · rename_i c hx hy ht
    split
    · rename_i hn
      refine Sound.put' fun st hs hf X a w h => ?_
      obtain ⟨ρ, Fp, m1, m2⟩ := h.mem
      obtain ⟨p, e1⟩ := nonNilP_S (ev_eval m2 (hs.ev hx)).1 hn
      have e2 := ev_sc h (hs.ev hy)
      obtain ⟨e, ht⟩ := tyPtr_S ht
      refine goes_scalar h ?_ hf
      unfold execOp
      have hg : (eqGuard .eql t x y (.pointer (some p)) (.pointer none)).run P w = .ok () w := rfl
      simp only [ho, e1, e2, hg, binOp, Sem.run_bind, run_eqNil ht, Result.andThen_ok, Sem.run_pure]
    · exact Sound.none
  · rename_i c hx hy ht
    split
    · rename_i hn
      refine Sound.put' fun st hs hf X a w h => ?_
      obtain ⟨ρ, Fp, m1, m2⟩ := h.mem
      obtain ⟨p, e1⟩ := nonNilP_S (ev_eval m2 (hs.ev hx)).1 hn
      have e2 := ev_sc h (hs.ev hy)
      obtain ⟨e, ht⟩ := tyPtr_S ht
      refine goes_scalar h ?_ hf
      unfold execOp
      have hg : (eqGuard .neq t x y (.pointer (some p)) (.pointer none)).run P w = .ok () w := rfl
      simp only [ho, e1, e2, hg, binOp, Sem.run_bind, run_eqNil ht, Result.andThen_ok, Sem.run_pure, Bool.not_false]
    · exact Sound.none
  · exact Sound.none
theorem evSAd_S {op : BinOp} {x y : Operand} {t t' : TypeId} (ho : o.op = .binOp op t x y t') : Sound P o lk (evSAd lk op x y) := by
  unfold evSAd
  split
  · rename_i s1 s2 hx hy
    refine Sound.put fun hp st hs hf X a w h => ?_
    simp only [allT, and_true] at hp
    have e1 := ev_sc h (hs.ev hx)
    have e2 := ev_sc h (hs.ev hy)
    refine goes_scalar h ?_ hf
    unfold execOp
    have hg : (eqGuard .add t x y (.string s1) (.string s2)).run P w = .ok () w := rfl
    have hm : IntKind.i64.max = 9223372036854775807 := by decide
    simp only [ho, e1, e2, hg, binOp, Op.stringOp, Sem.run_bind, hm]
    rw [if_neg (by omega)]
    simp only [Sem.run_pure, Result.andThen_ok]
  · exact Sound.none
theorem evSI_S {x y : Operand} {t : TypeId} {j : Nat} (ho : o.op = .index t x y) : Sound P o lk (evSI P lk t x y j) := by
  unfold evSI
  split
  · rename_i s k i hx hy ht
    refine Sound.put fun hp st hs hf X a w h => ?_
    simp only [allT, and_true] at hp
    obtain ⟨rfl, hj⟩ := hp
    have e1 := ev_sc h (hs.ev hx)
    have e2 := ev_sc h (hs.ev hy)
    refine goes_scalar h ?_ hf
    unfold execOp
    have hsz : s[j]? = some s[j] := by simp [hj]
    simp only [ho, e1, e2, Instr.index, Sem.run_bind, asIntOf, Sem.run_pure, Result.andThen_ok, run_underlying (tyStr_S ht)]
    rw [if_pos (by omega)]
    simp only [Int.toNat_natCast, hsz, Sem.run_pure, Result.andThen_ok, bt, Option.getD_some]
  · exact Sound.none
theorem run_boundsS (h : R X st a w) {lo hi : Option Operand} {len : Nat} {l u : Int} (hl : lowOf st lo = some l) (hu : highOf st len hi = some u) (h0 : 0 ≤ l) (h1 : l ≤ u) (h2 : u ≤ len) : (Instr.sliceBounds false len len (lo.map a.eval) (hi.map a.eval) none).run P w = .ok (l.toNat, u.toNat, len) w := by
  have key : ∀ {x : Operand} {i : Int} {y : Nat} {code : BoundsCode} , (match st.ev x with | some (.v (.sc (.int _ i))) => some i | _ => none) = some i → 0 ≤ i → i ≤ y → (Instr.sliceBound (a.eval x) y code).run P w = .ok i.toNat w := by
    intro x i y code hx hi0 hi1
    split at hx
    · rename_i k j hj
      simp only [Option.some.injEq] at hx
      subst hx
      have := ev_sc h hj
      simp only [Instr.sliceBound, this, asIntOf, Sem.run_bind, Sem.run_pure, Result.andThen_ok, if_pos (And.intro hi0 hi1)]
    · cases hx
  cases hi with
  | none =>
    simp only [highOf, Option.some.injEq] at hu
    subst hu
    cases lo with
    | none =>
      simp only [lowOf, Option.some.injEq] at hl
      subst hl
      simp [Instr.sliceBounds]
    | some x =>
      simp only [lowOf] at hl
      have := key (y := len) (code := .sliceB) hl h0 (by omega)
      simp [Instr.sliceBounds, this]
  | some y =>
    simp only [highOf] at hu
    have k1 := key (y := len) (code := .sliceAlen) hu (by omega) (by omega)
    cases lo with
    | none =>
      simp only [lowOf, Option.some.injEq] at hl
      subst hl
      simp [Instr.sliceBounds, k1]
    | some x =>
      simp only [lowOf] at hl
      have := key (y := u.toNat) (code := .sliceB) hl h0 (by omega)
      simp [Instr.sliceBounds, this, k1]
theorem evSS_S {t : TypeId} {x : Operand} {lo hi : Option Operand} {l u : Nat} (ho : o.op = .slice t x lo hi none) : Sound P o lk (evSS P lk t x lo hi l u) := by
  unfold evSS
  split
  · rename_i s hx ht
    split
    · rename_i l' u' hl hu
      refine Sound.put fun hp st hs hf X a w h => ?_
      simp only [allT, and_true] at hp
      obtain ⟨rfl, rfl, h1, h2⟩ := hp
      have e1 := ev_sc h (hs.ev hx)
      have hb := run_boundsS (P := P) h (hs.low hl) (hs.high hu) (by omega) (by omega) (by omega)
      refine goes_scalar h ?_ hf
      unfold execOp
      simp only [ho, e1, Instr.sliceAt, Instr.slice, Sem.run_bind, run_underlying (tyStr_S ht), Result.andThen_ok, Option.map_none, Option.isSome_none, Bool.false_eq_true, if_false, hb, Sem.run_pure, Int.toNat_natCast]
    · exact Sound.none
  · exact Sound.none
theorem evLenS_S {call : Call} {h : H} (ho : o.op = .call call) (hca : call.callee = .builtin .len) : Sound P o lk (evLenS P lk call h) := by
  unfold evLenS
  split
  · rename_i x t hx ht
    split
    · rename_i s hs hv
      refine clm_S fun st hsub hf X a w h => ?_
      have e1 := ev_sc h (hsub.ev hv)
      refine goes_scalar h ?_ hf
      unfold execOp
      simp [ho, resolve, hca, arr_of hx, arr_of ht, invoke, builtin, Builtin.len_, run_underlying (tyStr_S hs), e1, goInt]
    · exact Sound.none
  · exact Sound.none
theorem evMM_S {call : Call} {mx : Bool} (ho : o.op = .call call) (hca : call.callee = .builtin (if mx then .max else .min)) : Sound P o lk (evMM lk mx call) := by
  unfold evMM
  split
  · rename_i x y hargs
    split
    · rename_i k m k' n hx hy
      split
      · refine Sound.put' fun st hsub hf X a w h => ?_
        have e1 := ev_sc h (hsub.ev hx)
        have e2 := ev_sc h (hsub.ev hy)
        refine goes_scalar h ?_ hf
        unfold execOp
        simp only [if_true] at hca
        simp [ho, resolve, hca, arr_of hargs, invoke, builtin, Builtin.max_, Builtin.max2, e1, e2]
      · refine Sound.put' fun st hsub hf X a w h => ?_
        have e1 := ev_sc h (hsub.ev hx)
        have e2 := ev_sc h (hsub.ev hy)
        refine goes_scalar h ?_ hf
        unfold execOp
        simp only [Bool.false_eq_true, if_false] at hca
        simp [ho, resolve, hca, arr_of hargs, invoke, builtin, Builtin.min_, Builtin.min2, e1, e2]
    · exact Sound.none
  · exact Sound.none
/-! A load that opens what it reads, a store that closes what it lays down, an append that does. -/
def evLoadO (P : Program) (lk : St) (t : TypeId) (x : Operand) (id : Nat) (tr : V) (cs : List C) : Res := match lk.ev x, tyAgg P t with
  | some (.pr r off), some false => match lk.rows r, (mat tr id).1 with
    | some row, .sr i o E n => some ([row.cells[off]? = some (.own tr), row.cells.set off (.sr i o E n) = cs], ⟨some (.sr i o E n), [], matSet id (mat tr id).2 ++ [(r, cs)], matNew id (mat tr id).2⟩)
    | some row, .pr i o => some ([row.cells[off]? = some (.own tr), row.cells.set off (.pr i o) = cs], ⟨some (.pr i o), [], matSet id (mat tr id).2 ++ [(r, cs)], matNew id (mat tr id).2⟩)
    | _, _ => none
  | _, _ => none
theorem Goes.le {st1 : St} (h : R X st a w) (hl : Le st1 st') (hg : Goes P X o a w st1) : Goes P X o a w st' := fun Q => by
  have := hg Q
  exact Oper.wp_mono (fun a' w' hr => hl X a' w' hr) this
theorem St.put_rows' {st : St} {dst : Option Tmp} {c : C} {rows' : Rows} {used' : Nat → Bool} : St.put { st with rows := rows', used := used' } dst c = { st.put dst c with rows := rows', used := used' } := by
  cases dst <;> rfl
theorem getElem_set_of {row : List C} {off : Nat} {c d : C} (h : row[off]? = some d) : (row.set off c)[off]? = some c := by
  have := (List.getElem?_eq_some_iff.1 h).1
  simp [this]
theorem evLoadO_S {t : TypeId} {x : Operand} {id : Nat} {tr : V} {cs : List C} (ho : o.op = .load t x) : Sound P o lk (evLoadO P lk t x id tr cs) := by
  have key : ∀ {r off : Nat} {row : Row} {c : C}, lk.ev x = some (.pr r off) → tyAgg P t = some false → lk.rows r = some row → (mat tr id).1 = c → readC c = some c → Sound P o lk (some ([row.cells[off]? = some (.own tr), row.cells.set off c = cs], ⟨some c, [], matSet id (mat tr id).2 ++ [(r, cs)], matNew id (mat tr id).2⟩)) := by
    intro r off row c hx ht hr hc hrd cs' d e hp st hs hf hn X a w h
    simp only [Option.some.injEq, Prod.mk.injEq] at e
    obtain ⟨rfl, rfl⟩ := e
    simp only [allT, and_true] at hp
    obtain ⟨h1, rfl⟩ := hp
    have hlt : off < row.cells.length := (List.getElem?_eq_some_iff.1 h1).1
    have hl := Le.opened (st := st) (id := id) (hs.row hr) h1 (fun j h2 h3 => hn j (matNew_mem _ _ _ h2 h3))
    rw [hc] at hl
    have h' := hl X a w h
    have hg := goes_load (P := P) (c := c) (c' := c) h' ho ht (x := x) (r := r) (off := off) (row := ⟨row.cells.set off c⟩) (by
      have := hs.ev hx
      cases x <;> exact this) (by simp only [upd_self]) (getElem_set_of h1) hrd (by cases hd : o.dst <;> simpa [St.fits, hd] using hf)
    refine fun Q => ?_
    have := hg Q
    simp only [St.app, St.putO]
    rw [delRows, setRows_append, ← addRows_set, ← addUsed_new]
    rw [St.put_rows'] at this
    exact this
  unfold evLoadO
  split
  · rename_i r off hx ht
    split
    · rename_i row i o' E n hr hc
      exact key hx ht hr hc rfl
    · rename_i row i o' hr hc
      exact key hx ht hr hc rfl
    · exact Sound.none
  · exact Sound.none
theorem mapClo_sub {g : Rows → C → Option (V × Rows)} (hg : ∀ rows c t rows', g rows c = some (t, rows') → Subr rows' rows) : ∀ (cs : List C) {rows rows' : Rows} {ts : List V}, mapClo g rows cs = some (ts, rows') → Subr rows' rows ∧ ts.length = cs.length
  | [], rows, rows', ts, h => by
    simp only [mapClo, Option.some.injEq, Prod.mk.injEq] at h
    obtain ⟨rfl, rfl⟩ := h
    exact ⟨fun _ _ h => h, rfl⟩
  | c :: cs, rows, rows', ts, h => by
    simp only [mapClo] at h
    split at h
    · rename_i t rows1 h1
      split at h
      · rename_i ts1 rows2 h2
        simp only [Option.some.injEq, Prod.mk.injEq] at h
        obtain ⟨rfl, rfl⟩ := h
        obtain ⟨k1, k2⟩ := mapClo_sub hg cs h2
        exact ⟨fun r row hr => hg _ _ _ _ h1 r row (k1 r row hr), by simp [k2]⟩
      · cases h
    · cases h
theorem clo_sub : ∀ (n : Nat) (rows : Rows) (c : C) (t : V) (rows' : Rows), clo n rows c = some (t, rows') → Subr rows' rows
  | 0, rows, c, t, rows', h => by simp [clo] at h
  | n + 1, rows, c, t, rows', h => by
    have ih := fun (cs : List C) {rows rows' : Rows} {ts : List V} (h : mapClo (clo n) rows cs = some (ts, rows')) => (mapClo_sub (clo_sub n) cs h).1
    cases c with
    | v x =>
      have : rows' = rows := by
        unfold clo at h
        cases x <;> simp only [Option.some.injEq, Prod.mk.injEq] at h <;> exact h.2.symm
      subst this
      exact fun _ _ h => h
    | own x => rw [clo_own] at h; simp only [Option.some.injEq, Prod.mk.injEq] at h; obtain ⟨_, rfl⟩ := h; exact fun _ _ h => h
    | sr r off E len =>
      cases hr : rows r with
      | none => simp [clo, hr] at h
      | some row =>
        rw [clo_sr hr] at h
        split at h
        · simp only [Option.map_eq_some_iff] at h
          obtain ⟨q, h1, h2⟩ := h
          obtain ⟨rfl, rfl⟩ := Prod.mk.inj h2
          exact fun j row hj => Subr.del j row (ih _ h1 j row hj)
        · cases h
    | pr r off =>
      cases hr : rows r with
      | none => simp [clo, hr] at h
      | some row =>
        rw [clo_pr hr] at h
        split at h
        · simp only [Option.map_eq_some_iff] at h
          obtain ⟨q, h1, h2⟩ := h
          obtain ⟨rfl, rfl⟩ := Prod.mk.inj h2
          exact fun j row hj => Subr.del j row (ih _ h1 j row hj)
        · cases h
    | ag cs =>
      simp only [clo, Option.map_eq_some_iff] at h
      obtain ⟨q, h1, h2⟩ := h
      obtain ⟨rfl, rfl⟩ := Prod.mk.inj h2
      exact ih _ h1
    | tp cs =>
      simp only [clo, Option.map_eq_some_iff] at h
      obtain ⟨q, h1, h2⟩ := h
      obtain ⟨rfl, rfl⟩ := Prod.mk.inj h2
      exact ih _ h1
    | fn f cs =>
      simp only [clo, Option.map_eq_some_iff] at h
      obtain ⟨q, h1, h2⟩ := h
      obtain ⟨rfl, rfl⟩ := Prod.mk.inj h2
      exact ih _ h1
    | dead => simp [clo] at h
/-- All references in a range of a row become trees. -/
theorem Le.foldL {r n : Nat} : ∀ (cs : List C) (pre : List C) (off : Nat) {st : St} {row : Row} {ts : List V} {rows1 : Rows}, st.rows r = some row → off + cs.length ≤ row.cells.length → (∀ i, i < cs.length → row.cells[off + i]? = cs[i]?) → mapClo (clo n) (upd st.rows r none) cs = some (ts, rows1) →
    Le st { st with rows := upd rows1 r (some ⟨setRange row.cells off (ts.map C.own)⟩), used := st.used }
  | [], pre, off, st, row, ts, rows1, hr, hl, hc, h => by
    simp only [mapClo, Option.some.injEq, Prod.mk.injEq] at h
    obtain ⟨rfl, rfl⟩ := h
    intro X a w h
    have : upd (upd st.rows r none) r (some ⟨setRange row.cells off (List.map C.own [])⟩) = st.rows := by
      funext j
      simp only [List.map_nil, setRange]
      by_cases hj : j = r
      · subst hj; rw [upd_self, hr]
      · rw [upd_ne hj, upd_ne hj]
    rw [this]
    exact h
  | c :: cs, pre, off, st, row, ts, rows1, hr, hl, hc, h => by
    simp only [mapClo] at h
    split at h
    · rename_i t rowsA h1
      split at h
      · rename_i ts' rowsB h2
        simp only [Option.some.injEq, Prod.mk.injEq] at h
        obtain ⟨rfl, rfl⟩ := h
        have hc0 : row.cells[off]? = some c := by simpa using hc 0 (by simp)
        have f1 := Le.fold (st := st) hr hc0 h1
        have hrA : rowsA r = none := by
          have := clo_sub n _ c _ _ h1
          cases hj : rowsA r with
          | none => rfl
          | some x => have := this r x hj; rw [upd_self] at this; cases this
        have e2 : upd (upd rowsA r (some ⟨row.cells.set off (.own t)⟩)) r none = rowsA := by
          funext j
          by_cases hj : j = r
          · subst hj; rw [upd_self, hrA]
          · rw [upd_ne hj, upd_ne hj]
        have f2 := Le.foldL (r := r) (n := n) cs pre (off + 1) (st := { st with rows := upd rowsA r (some ⟨row.cells.set off (.own t)⟩), used := st.used }) (row := ⟨row.cells.set off (.own t)⟩) (ts := ts') (rows1 := rowsB) (by simp only [upd_self]) (by simp only [List.length_set, List.length_cons] at hl ⊢; omega) (fun i hi => by
          have := hc (i + 1) (by simp; omega)
          simp only [List.getElem?_cons_succ] at this
          rw [← this, List.getElem?_set_ne (by omega)]
          congr 1; omega) (by simp only [e2]; exact h2)
        exact f1.trans f2
      · cases h
    · cases h
theorem beqF {i j : Nat} (h : Nat.beq i j = false) : i ≠ j := by
  rintro rfl
  rw [Nat.beq_refl] at h
  cases h
def rowsBut (rows : Rows) (r : Nat) : Rows := fun j => match Nat.beq j r with
  | true => none
  | false => rows j
theorem rowsBut_upd {rows : Rows} {r : Nat} : rowsBut rows r = upd rows r none := by
  funext j
  unfold rowsBut
  by_cases h : j = r
  · subst h; rw [upd_self, show Nat.beq j j = true from Nat.beq_refl j]
  · rw [upd_ne h, show Nat.beq j r = false by
      cases e : Nat.beq j r with
      | false => rfl
      | true => exact absurd (Nat.eq_of_beq_eq_true e) h]
def evStoreC (P : Program) (lk : St) (t : TypeId) (x y : Operand) (dst : Option Tmp) (O : Orc) (fuel : Nat) (cs : List C) : Res := match dst, lk.ev x, lk.ev y, tySize P t with
  | none, some (.pr r off), some c, some n => match lk.rows r, Nat.beq n (cellsC c).length, (cellsC c).all oneC with
    | some row, true, true => match mapCloS (cloS O (rowsBut lk.rows r) fuel) [] ((cellsC c).map toCell) with
      | some (ps, ts, g) => some (ps ++ [off + n ≤ row.cells.length, setRange row.cells off (ts.map C.own) = cs], ⟨none, g, [(r, cs)], []⟩)
      | none => none
    | _, _, _ => none
  | _, _, _, _ => none
theorem setRange_get : ∀ (l cs : List C) (off i : Nat), off + l.length ≤ cs.length → i < l.length → (setRange cs off l)[off + i]? = l[i]?
  | [], _, _, _, _, h => by simp at h
  | c :: l, cs, off, i, h, hi => by
    simp only [List.length_cons] at h hi
    simp only [setRange]
    cases i with
    | zero =>
      have : ∀ (l cs : List C) (o : Nat), off < o → (setRange cs o l)[off]? = cs[off]? := by
        intro l
        induction l with
        | nil => intro cs o _; rfl
        | cons d l ih => intro cs o ho; simp only [setRange]; rw [ih _ _ (by omega), List.getElem?_set_ne (by omega)]
      change (setRange (cs.set off c) (off + 1) l)[off]? = some c
      rw [this l (cs.set off c) (off + 1) (by omega), List.getElem?_set_self (by omega)]
    | succ i =>
      rw [show off + (i + 1) = off + 1 + i by omega, setRange_get l _ _ i (by simp; omega) (by omega)]
      simp
theorem setRange_len : ∀ (l cs : List C) (off : Nat), (setRange cs off l).length = cs.length
  | [], _, _ => rfl
  | c :: l, cs, off => by simp only [setRange]; rw [setRange_len l]; simp
theorem setRange_over : ∀ (l k cs : List C) (off : Nat), k.length = l.length → setRange (setRange cs off l) off k = setRange cs off k
  | [], [], _, _, _ => rfl
  | [], _ :: _, _, _, h => by simp at h
  | _ :: _, [], _, _, h => by simp at h
  | c :: l, d :: k, cs, off, h => by
    simp only [setRange]
    have : ∀ (l cs : List C) (o : Nat), off < o → (setRange cs o l).set off d = setRange (cs.set off d) o l := by
      intro l
      induction l with
      | nil => intro cs o _; rfl
      | cons e l ih => intro cs o ho; simp only [setRange]; rw [ih _ _ (by omega), List.set_comm _ _ (by omega)]
    rw [this l _ _ (by omega), List.set_set, setRange_over l k _ _ (by simpa using h)]
theorem evStoreC_S {t : TypeId} {x y : Operand} {O : Orc} {fuel : Nat} {cs : List C} (ho : o.op = .store t x y) : Sound P o lk (evStoreC P lk t x y o.dst O fuel cs) := by
  unfold evStoreC
  split
  · rename_i r off c n hd hx hy hn
    split
    · rename_i row hr h1 h2
      have h1 := Nat.eq_of_beq_eq_true h1
      split
      · rename_i ps ts g hc
        intro cs' d e hp st hs hf hnw X a w h
        simp only [Option.some.injEq, Prod.mk.injEq] at e
        obtain ⟨rfl, rfl⟩ := e
        simp only [allT, allT_append, and_true] at hp
        obtain ⟨p1, p2, rfl⟩ := hp
        have hrow := hs.row hr
        have hln : ((cellsC c).map toCell).length = (cellsC c).length := by simp
        have g1 := goes_store (P := P) h ho (h1 ▸ hn) (hs.ev hx) (hs.ev hy) hrow (h1 ▸ p2) h2 hd
        have cl := mapCloS_S (full := upd st.rows r none) (k := clo fuel) (cloS_S (O := O) (rows := rowsBut lk.rows r) (full := upd st.rows r none) (fun j row' hj => by
          unfold rowsBut at hj
          split at hj
          · cases hj
          · rename_i hb
            rw [upd_ne (beqF hb)]
            exact hs.rows j row' hj) fuel) _ hc p1
        rw [dels_nil] at cl
        have hts := (mapClo_sub (clo_sub fuel) _ cl).2
        have f := Le.foldL (r := r) (n := fuel) ((cellsC c).map toCell) [] off (st := { st with rows := upd st.rows r (some ⟨setRange row.cells off ((cellsC c).map toCell)⟩) }) (row := ⟨setRange row.cells off ((cellsC c).map toCell)⟩) (ts := ts) (rows1 := dels (upd st.rows r none) g) (by simp only [upd_self]) (by simp only [setRange_len, hln]; omega) (fun i hi => setRange_get _ _ _ _ (by rw [hln]; omega) hi) (by
          have : upd (upd st.rows r (some ⟨setRange row.cells off ((cellsC c).map toCell)⟩)) r none = upd st.rows r none := by
            funext j
            by_cases hj : j = r
            · subst hj; rw [upd_self, upd_self]
            · rw [upd_ne hj, upd_ne hj, upd_ne hj]
          simp only [this]
          exact cl)
        have e1 : upd (dels (upd st.rows r none) g) r (some ⟨setRange (setRange row.cells off ((cellsC c).map toCell)) off (ts.map C.own)⟩) = setRows (delRows st.rows g) [(r, setRange row.cells off (ts.map C.own))] := by
          rw [setRange_over _ _ _ _ (by simp [hts]), delRows_dels]
          funext j
          simp only [setRows]
          by_cases hj : j = r
          · subst hj; rw [upd_self, upd_self]
          · rw [upd_ne hj, upd_ne hj]
            simp only [dels, upd_ne hj]
        simp only at f
        rw [e1] at f
        refine fun Q => ?_
        have := g1 Q
        refine Oper.wp_mono (fun a' w' hr' => ?_) this
        have := f X a' w' hr'
        simp only [St.app, St.putO, newUsed]
        exact this
      · exact Sound.none
    · exact Sound.none
  · exact Sound.none
def evAppC (P : Program) (lk : St) (call : Call) (id : Nat) (O : Orc) (fuel : Nat) (cs : List C) : Res := match call.args.toList, call.argTypes.toList with
  | [x, y], [t, u] => match tyElem P t, lk.ev x, lk.ev y with
    | some e, some cx, some cy => match tySize P e, tyBytes P e, tyZero P e, notInt P u with
      | some E, some Bt, some zs, true => match Nat.beq zs.length E, Nat.blt 0 Bt, srcS lk.rows E cy none with
        | true, true, some (ps, m, ds) => match cx with
          | .sr r off E' len => match lk.rows r, Nat.beq E' E, mapCloS (cloS O (rowsBut (rowsBut lk.rows r) id) fuel) [] (ds.map toCell) with
            | some row, true, some (qs, ts, g) => some (ps ++ (qs ++ [off + len * E ≤ row.cells.length, (len + m) * Bt ≤ 140737488355328, (row.cells.drop off).take (len * E) ++ ts.map C.own = cs]), ⟨some (.sr id 0 E (len + m)), r :: g, [(id, cs)], [id]⟩)
            | _, _, _ => none
          | .v (.sc (.slice none 0 0)) => match mapCloS (cloS O (rowsBut lk.rows id) fuel) [] (ds.map toCell) with
            | some (qs, ts, g) => some (ps ++ (qs ++ [m * Bt ≤ 140737488355328, ts.map C.own = cs]), ⟨some (.sr id 0 E m), g, [(id, cs)], [id]⟩)
            | none => none
          | _ => none
        | _, _, _ => none
      | _, _, _, _ => none
    | _, _, _ => none
  | _, _ => none
theorem setRange_end : ∀ (k old l : List C), k.length = l.length → setRange (old ++ l) old.length k = old ++ k := by
  intro k
  induction k with
  | nil => intro old l h; cases l with
    | nil => rfl
    | cons => simp at h
  | cons d k ih =>
    intro old l h
    cases l with
    | nil => simp at h
    | cons c l =>
      simp only [setRange]
      have := ih (old ++ [d]) l (by simpa using h)
      simp only [List.length_append, List.length_cons, List.length_nil, List.append_assoc, List.cons_append, List.nil_append] at this
      rw [← this]
      congr 1
      simp
/-- What is appended is closed. -/
theorem app_close {X : Ctx} {a : Act} {w : World} {rows0 lkrows : Rows} {st : St} {dst : Option Tmp} {c : C} {id fuel : Nat} {O : Orc} {old dsc : List C} {qs : List Prop} {ts : List V} {g : List Nat} (hsub : ∀ j row, lkrows j = some row → j ≠ id ∧ rows0 j = some row) (hq : mapCloS (cloS O lkrows fuel) [] dsc = some (qs, ts, g)) (hp : allT qs)
    (h : R X { st.put dst c with rows := upd rows0 id (some ⟨old ++ dsc⟩), used := upd st.used id true } a w) : R X { st.put dst c with rows := setRows (delRows rows0 g) [(id, old ++ ts.map C.own)], used := upd st.used id true } a w := by
  have cl := mapCloS_S (full := upd rows0 id none) (k := clo fuel) (cloS_S (O := O) (rows := lkrows) (full := upd rows0 id none) (fun j row' hj => by
    obtain ⟨k1, k2⟩ := hsub j row' hj
    rw [upd_ne k1]; exact k2) fuel) _ hq hp
  rw [dels_nil] at cl
  have hts := (mapClo_sub (clo_sub fuel) _ cl).2
  have f := Le.foldL (r := id) (n := fuel) dsc [] old.length (st := { st.put dst c with rows := upd rows0 id (some ⟨old ++ dsc⟩), used := upd st.used id true }) (row := ⟨old ++ dsc⟩) (ts := ts) (rows1 := dels (upd rows0 id none) g) (by simp only [upd_self]) (by simp) (fun i hi => by simp [List.getElem?_append_right]) (by
    have : upd (upd rows0 id (some ⟨old ++ dsc⟩)) id none = upd rows0 id none := by
      funext j
      by_cases hj : j = id
      · subst hj; rw [upd_self, upd_self]
      · rw [upd_ne hj, upd_ne hj, upd_ne hj]
    simp only [this]
    exact cl)
  have e1 : upd (dels (upd rows0 id none) g) id (some ⟨setRange (old ++ dsc) old.length (ts.map C.own)⟩) = setRows (delRows rows0 g) [(id, old ++ ts.map C.own)] := by
    rw [setRange_end _ _ _ (by simp [hts]), delRows_dels]
    funext j
    simp only [setRows]
    by_cases hj : j = id
    · subst hj; rw [upd_self, upd_self]
    · rw [upd_ne hj, upd_ne hj]
      simp only [dels, upd_ne hj]
  simp only at f
  rw [e1] at f
  exact f X a w h
theorem evAppC_S {call : Call} {id : Nat} {O : Orc} {fuel : Nat} {cs : List C} (ho : o.op = .call call) (hca : call.callee = .builtin .append) : Sound P o lk (evAppC P lk call id O fuel cs) := by
  unfold evAppC
  split
  · rename_i x y t u hx ht
    split
    · rename_i e cx cy he hcx hcy
      split
      · rename_i E Bt zs hE hB hz hu
        split
        · rename_i ps m ds h1 h2 h3
          have h1 := Nat.eq_of_beq_eq_true h1
          have h2 : 1 ≤ Bt := Nat.le_of_ble_eq_true h2
          split
          · rename_i r off E' len
            split
            · rename_i row qs ts g hrow h4 hq
              have h4 := Nat.eq_of_beq_eq_true h4
              subst h4
              intro cs' d e hc st hs hf hn X a w h
              simp only [Option.some.injEq, Prod.mk.injEq] at e
              obtain ⟨rfl, rfl⟩ := e
              simp only [allT, allT_append, and_true] at hc
              obtain ⟨c0, cq, c1, c2, rfl⟩ := hc
              obtain ⟨k1, k2⟩ := srcS_S hs.rows h3 c0
              have g1 := goes_append (P := P) h ho hca (arr_of hx) (arr_of ht) he hu hE hB h2 hz h1 (hs.ev hcx) (hs.row hrow) c1 (hs.ev hcy) k1 k2 c2 (hn id (by simp)) hf
              refine fun Q => Oper.wp_mono (fun a' w' hr' => ?_) (g1 Q)
              have := app_close (rows0 := upd st.rows r none) (lkrows := rowsBut (rowsBut lk.rows r) id) (fun j row' hj => by
                unfold rowsBut at hj
                split at hj
                · cases hj
                · rename_i hb
                  split at hj
                  · cases hj
                  · rename_i hb2
                    exact ⟨beqF hb, by rw [upd_ne (beqF hb2)]; exact hs.rows j row' hj⟩) hq cq hr'
              exact this
            · exact Sound.none
          · split
            · rename_i qs ts g hq
              intro cs' d e hc st hs hf hn X a w h
              simp only [Option.some.injEq, Prod.mk.injEq] at e
              obtain ⟨rfl, rfl⟩ := e
              simp only [allT, allT_append, and_true] at hc
              obtain ⟨c0, cq, c1, rfl⟩ := hc
              obtain ⟨k1, k2⟩ := srcS_S hs.rows h3 c0
              have g1 := goes_appendNil' (P := P) h ho hca (arr_of hx) (arr_of ht) he hu hE hB h2 hz h1 (hs.ev hcx) (hs.ev hcy) k1 k2 c1 (hn id (by simp)) hf
              refine fun Q => Oper.wp_mono (fun a' w' hr' => ?_) (g1 Q)
              have := app_close (old := []) (rows0 := st.rows) (lkrows := rowsBut lk.rows id) (fun j row' hj => by
                unfold rowsBut at hj
                split at hj
                · cases hj
                · rename_i hb
                  exact ⟨beqF hb, hs.rows j row' hj⟩) hq cq hr'
              exact this
            · exact Sound.none
          · exact Sound.none
        · exact Sound.none
      · exact Sound.none
    · exact Sound.none
  · exact Sound.none
/-- A slice's row cut down to what the slice shows, under a number of its own. -/
theorem Le.cutE {k r off E len id : Nat} {row : Row} (hk : st.env k = some (.sr r off E len)) (hr : st.rows r = some row) (hl : off + len * E ≤ row.cells.length) (hid : st.used id = false) :
    Le st { st with env := upd st.env k (some (.sr id 0 E len)), rows := upd (upd st.rows r none) id (some ⟨(row.cells.drop off).take (len * E)⟩), used := upd st.used id true } := fun X a w h => by
  obtain ⟨ρ, Fp, m1, m2⟩ := h.mem
  obtain ⟨G, g1, g2, g3, g4, g5, g6⟩ := m1.row r row hr
  have hsubset : (Pl.fs ⟨(ρ r).b, (ρ r).o + off, (ρ r).ext - off⟩).sub (ρ r).fs := fun b o ⟨h1, h2, h3⟩ => by
    simp only at h1 h2 h3
    exact ⟨h1, by omega, by omega⟩
  have mem := (m1.del r).add (r := id) (p := ⟨(ρ r).b, (ρ r).o + off, (ρ r).ext - off⟩) (F := Fp r) (G := G) (row := ⟨(row.cells.drop off).take (len * E)⟩) hid
    (RowR_mono FS.sub.refl Same.refl _ (u := st.used) (fun j p _ hp => plOf_del j p hp) (okL_mid (m1.okc r row hr).2 off _) FS.sub.refl Same.refl (fun _ _ => rfl) (RowR_mid g1 off (len * E) hl))
    (okL_mid (m1.okc r row hr).2 off _) (by simp only [List.length_take, List.length_drop]; omega) (hsubset.trans g3) g4 (g5.mono hsubset FS.sub.refl) (fun j hj => by
      have := g6 (off + j) (by simp only at hj; omega)
      simpa only [Nat.add_assoc] using this)
    (fun j row' hj => by
      have hne : j ≠ r := by rintro rfl; rw [upd_self] at hj; cases hj
      rw [upd_ne hne] at hj
      exact m1.sep r j row row' (Ne.symm hne) hr hj) (m1.kdis r row hr) (m1.low r row hr)
  have mono := plOf_fresh (ρ := ρ) (row := ⟨(row.cells.drop off).take (len * E)⟩) (p := ⟨(ρ r).b, (ρ r).o + off, (ρ r).ext - off⟩) (rows := st.rows) hid (fun j q hq => plOf_del (r := r) j q hq)
  refine ⟨⟨_, _, mem, ?_, CRL_mono FS.sub.refl Same.refl _ mono m2.2.2 m2.2.1, okL_mono used_upd _ m2.2.2⟩, h.nodef, h.size, h.below, h.keep, h.hsub, h.hk, h.hB⟩
  intro j c hj
  by_cases e : j = k
  · subst e
    simp only [upd_self, Option.some.injEq] at hj
    subst hj
    obtain ⟨x, e1, e2, e3⟩ := m2.1 j _ hk
    refine ⟨x, e1, ?_, by simp only [C.ok, upd_self]⟩
    simp only [CR] at e2 ⊢
    obtain ⟨ad, cap, f1, f2, f3⟩ := e2
    refine ⟨ad, cap, f1, f2, fun p hp => ?_⟩
    simp only [plOf, upd_self, Option.some.injEq] at hp
    subst hp
    rcases f3 _ (plOf_some hr) with f4 | ⟨f4, f5⟩
    · exact .inl f4
    · exact .inr ⟨by rw [f4]; simp, by simp only; omega⟩
  · simp only [upd_ne e] at hj
    obtain ⟨x, e1, e2, e3⟩ := m2.1 j c hj
    exact ⟨x, e1, CR_mono FS.sub.refl Same.refl c mono e3 e2, ok_mono used_upd c e3⟩
def evSlC (P : Program) (lk : St) (t : TypeId) (x : Operand) (lo hi : Option Operand) (dst : Option Tmp) (l u id : Nat) (cs : List C) : Res := match tyElem P t, dst with
  | some e, some _ => match tySize P e, lk.ev x with
    | some E, some (.sr r off E' len) => match lowOf lk lo, highOf lk len hi, Nat.beq E E', lk.rows r with
      | some l', some u', true, some row => some ([l' = (l : Int), u' = (u : Int), l ≤ u, u ≤ len, off + len * E ≤ row.cells.length, (row.cells.drop (off + l * E)).take ((u - l) * E) = cs], ⟨some (.sr id 0 E (u - l)), [r], [(id, cs)], [id]⟩)
      | _, _, _, _ => none
    | _, _ => none
  | _, _ => none
theorem evSlC_S {t : TypeId} {x : Operand} {lo hi : Option Operand} {l u id : Nat} {cs : List C} (ho : o.op = .slice t x lo hi none) : Sound P o lk (evSlC P lk t x lo hi o.dst l u id cs) := by
  unfold evSlC
  split
  · rename_i e k ht hd
    split
    · rename_i E r off E' len hE hx
      split
      · rename_i l' u' row hl hu hb hr
        have hb := Nat.eq_of_beq_eq_true hb
        subst hb
        intro cs' d e' hp st hs hf hn X a w h
        simp only [Option.some.injEq, Prod.mk.injEq] at e'
        obtain ⟨rfl, rfl⟩ := e'
        simp only [allT, and_true] at hp
        obtain ⟨rfl, rfl, p3, p4, p5, rfl⟩ := hp
        have hmul : l * E ≤ len * E := Nat.mul_le_mul_right _ (by omega)
        have hmul2 : l * E + (u - l) * E = u * E := by rw [← Nat.add_mul]; congr 1; omega
        have hmul3 : u * E ≤ len * E := Nat.mul_le_mul_right _ p4
        have g := goes_slice (P := P) h ho ht hE (hs.ev hx) (hs.low hl) (hs.high hu) (by omega) (by omega) (by omega) hf
        simp only [Int.toNat_natCast] at g
        have hid : st.used id = false := hn id (by simp)
        refine fun Q => Oper.wp_mono (fun a' w' hr' => ?_) (g Q)
        have := Le.cutE (st := st.put o.dst (.sr r (off + l * E) E (u - l))) (k := k) (r := r) (off := off + l * E) (E := E) (len := u - l) (id := id) (row := row) (by rw [hd]; simp only [St.put, upd_self]) (by rw [(put_rows _ _ _).1]; exact hs.row hr) (by omega) (by rw [(put_rows _ _ _).2.1]; exact hid) X a' w' hr'
        simp only [St.app, St.putO, delRows, setRows, newUsed]
        rw [hd] at this ⊢
        simp only [St.put] at this ⊢
        have e2 : upd (upd st.env k (some (C.sr r (off + l * E) E (u - l)))) k (some (C.sr id 0 E (u - l))) = upd st.env k (some (C.sr id 0 E (u - l))) := by
          funext j
          by_cases hj : j = k
          · subst hj; rw [upd_self, upd_self]
          · rw [upd_ne hj, upd_ne hj, upd_ne hj]
        rw [e2] at this
        exact this
      · exact Sound.none
    · exact Sound.none
  · exact Sound.none
end
end Go.Eng
set_option linter.unusedVariables false
namespace Go.Eng
open Go.RowKit (Below)
/-! append(x, make(T, n)...) , and append of what is handed over. -/
section
variable {P : Program} {X : Ctx} {o : Oper} {lk st st' : St} {a : Act} {w w' : World} {S K : FS} {B : Nat} {pl : Nat → Option Pl} {used : Nat → Bool} {rows : Nat → Option Row} {ρ : Nat → Pl} {Fp : Nat → FS}
def isI64 (P : Program) (u : TypeId) : Bool := match P.underlying u with
  | some (.int .i64) => true
  | _ => false
theorem isI64_S {u : TypeId} (h : isI64 P u = true) : P.underlying u = some (.int .i64) := by
  unfold isI64 at h
  split at h
  · assumption
  · cases h
theorem zeroCells_flat {z : Value} {zs : List Value} {n : Nat} (e1 : z.cells.toList = zs) : Builtin.zeroCells z.cells n = (List.replicate n zs).flatten.toArray := by
  apply Array.ext'
  have hzs : z.cells.size = zs.length := by rw [← e1]; simp
  rw [← range_flat]
  simp only [Builtin.zeroCells, hzs, Array.toList_map, Array.toList_range]
  refine List.map_congr_left fun i _ => ?_
  rw [← e1, arr_bang]
theorem wrap_nat {n : Nat} (h : n ≤ 281474976710656) : IntKind.i64.wrap (n : Int) = (n : Int) := by
  have h1 : (n : Int) % 2 ^ 64 = n := by omega
  simp only [IntKind.wrap, IntKind.bits, IntKind.signed, h1]
  rw [if_neg (by simp; omega)]
theorem run_apz_room {t u e ty : TypeId} {E Bt n b p sLen sCap : Nat} {k : IntKind} {zs : List Value} (ht : tyElem P t = some e) (hu : isI64 P u = true) (hE : tySize P e = some E) (hB : tyBytes P e = some Bt) (hz : tyZero P e = some zs) (hzn : zs.length = E) (hn : n ≤ 281474976710656) (hb : n * Bt ≤ 281474976710656)
    (h1 : ∀ v ∈ zs, v.oneCell' = true) (hth : w.there b (p + sLen * E) (n * E)) (hroom : sLen + n ≤ sCap) :
    (Builtin.append_ #[t, u] ty #[.slice (some ⟨b, p, none⟩) sLen sCap, .int k n]).run P w = .ok (.slice (some ⟨b, p, none⟩) (sLen + n) sCap) (w.setCells b (p + sLen * E) (List.replicate n zs).flatten) := by
  obtain ⟨i, i1, i2⟩ := run_info hB
  obtain ⟨z, e1, e2⟩ := run_zero hz
  have hfl : (List.replicate n zs).flatten.length = n * E := by simp [hzn]
  have hst := run_storeCells_cells (P := P) b (p + sLen * E) (List.replicate n zs).flatten 0 w (fun j hj => by rw [hfl] at hj; simpa using (hth j hj).1) (fun j hj => by rw [hfl] at hj; simpa using (hth j hj).2) (fun v hv => by
    simp only [List.mem_flatten, List.mem_replicate] at hv
    obtain ⟨l, ⟨_, rfl⟩, hl⟩ := hv
    exact h1 v hl)
  simp only [Nat.add_zero] at hst
  have hw := wrap_nat hn
  have h48 : ¬ ((n : Int) * (i.bytes : Int) > 2 ^ 48) := by
    rw [i1]
    have : ((n * Bt : Nat) : Int) ≤ 281474976710656 := by omega
    push_cast at this
    omega
  have hlt : ¬ ((n : Int) < 0) := by omega
  simp only [Builtin.append_, List.getElem?_toArray, List.getElem?_cons_zero, List.getElem?_cons_succ, Sem.run_bind, run_underlying (tyElem_under ht), Result.andThen_ok, run_size hE, run_underlying (isI64_S hu), Sem.run_pure, if_true, asInt, asIntOf, hw, hlt, if_false, i2, h48, Int.toNat_natCast, if_pos hroom, Bool.not_true, Bool.false_eq_true]
  by_cases h0 : n * E = 0
  · have : (List.replicate n zs).flatten = [] := List.length_eq_zero_iff.1 (by rw [hfl, h0])
    rw [this] at hst ⊢
    simp only [h0, if_true, Sem.run_pure, Result.andThen_ok, Addr.add_mid, hst]
  · simp only [h0, if_false, Sem.run_bind, e2, Result.andThen_ok, Sem.run_pure, zeroCells_flat e1, Addr.add_mid, hst]
theorem run_apz_zero {t u e ty : TypeId} {E Bt : Nat} {ad : Option Addr} {k : IntKind} (ht : tyElem P t = some e) (hu : isI64 P u = true) (hE : tySize P e = some E) (hB : tyBytes P e = some Bt) :
    (Builtin.append_ #[t, u] ty #[.slice ad 0 0, .int k 0]).run P w = .ok (.slice ad 0 0) w := by
  obtain ⟨i, i1, i2⟩ := run_info hB
  have hw : IntKind.i64.wrap 0 = 0 := by decide
  cases ad with
  | none => simp only [Builtin.append_, List.getElem?_toArray, List.getElem?_cons_zero, List.getElem?_cons_succ, Sem.run_bind, run_underlying (tyElem_under ht), Result.andThen_ok, run_size hE, run_underlying (isI64_S hu), Sem.run_pure, if_true, asInt, asIntOf, hw, i2, Int.zero_mul, Int.toNat_zero, Nat.add_zero, Nat.le_refl, Bool.not_true, Bool.false_eq_true, if_false, Nat.zero_mul, Int.lt_irrefl, show ¬ ((0 : Int) > 2 ^ 48) by decide]
  | some ad => simp only [Builtin.append_, List.getElem?_toArray, List.getElem?_cons_zero, List.getElem?_cons_succ, Sem.run_bind, run_underlying (tyElem_under ht), Result.andThen_ok, run_size hE, run_underlying (isI64_S hu), Sem.run_pure, if_true, asInt, asIntOf, hw, i2, Int.zero_mul, Int.toNat_zero, Nat.add_zero, Nat.le_refl, Bool.not_true, Bool.false_eq_true, if_false, Nat.zero_mul, Int.lt_irrefl, show ¬ ((0 : Int) > 2 ^ 48) by decide, storeCells]
theorem run_apz_grow {t u e ty : TypeId} {E Bt n sLen sCap : Nat} {k : IntKind} {base : Option Addr} {olds zs : List Value} (ht : tyElem P t = some e) (hu : isI64 P u = true) (hE : tySize P e = some E) (hB : tyBytes P e = some Bt) (hB0 : 0 < Bt) (hz : tyZero P e = some zs) (hzn : zs.length = E) (hn : n ≤ 281474976710656) (hb : n * Bt ≤ 281474976710656)
    (hold : (Builtin.firstCells E sLen (.slice base sLen sCap)).run P w.drew = .ok olds.toArray w.drew) (hroom : sCap < sLen + n) (hbig : (sLen + n) * Bt ≤ 140737488355328) :
    ∃ cap zz, sLen + n ≤ cap ∧ zz = (List.replicate (cap - (sLen + n)) zs).flatten ∧ (Builtin.append_ #[t, u] ty #[.slice base sLen sCap, .int k n]).run P w = .ok (.slice (some ⟨w.heap.size, 0, none⟩) (sLen + n) cap) (w.drew.alloc (.cells (olds ++ (List.replicate n zs).flatten ++ zz).toArray e)) := by
  obtain ⟨i, i1, i2⟩ := run_info hB
  obtain ⟨z, e1, e2⟩ := run_zero hz
  refine ⟨grownCap w (sLen + n) sCap e, _, grownCap_ge _ _ _ _, rfl, ?_⟩
  have h48 : ¬ ((2 : Nat) ^ 48 < Builtin.nextslicecap (sLen + n) sCap * i.bytes) := by
    rw [i1]
    have := growslice_fits (old := sCap) (need := sLen + n) (bytes := Bt) hroom hbig
    omega
  have h48' : ¬ ((n : Int) * (i.bytes : Int) > 2 ^ 48) := by
    rw [i1]
    have : ((n * Bt : Nat) : Int) ≤ 281474976710656 := by omega
    push_cast at this
    omega
  have hlt : ¬ ((n : Int) < 0) := by omega
  have hw := wrap_nat hn
  have hmx : ¬ (((sLen + n : Nat) : Int) > IntKind.i64.max) := by
    have hm : IntKind.i64.max = 9223372036854775807 := by decide
    have : sLen + n ≤ (sLen + n) * Bt := Nat.le_mul_of_pos_right _ hB0
    omega
  have hnr : ¬ (sLen + n ≤ sCap) := by omega
  have hcut : (Question.appendCap (sLen + n) sCap e).cut (w.tape w.drawn (Question.appendCap (sLen + n) sCap e)) = grownCap w (sLen + n) sCap e := rfl
  simp only [Builtin.append_, List.getElem?_toArray, List.getElem?_cons_zero, List.getElem?_cons_succ, Sem.run_bind, run_underlying (tyElem_under ht), Result.andThen_ok, run_size hE, run_underlying (isI64_S hu), Sem.run_pure, if_true, asInt, asIntOf, hw, hlt, if_false, i2, h48', Int.toNat_natCast, if_neg hnr, Bool.not_true, Bool.false_eq_true, hmx, false_and, h48, gt_iff_lt, run_choose, Question.forced, World.drew_eq, run_askRoom, hold, hcut]
  by_cases h0 : n * E = 0
  · have : (List.replicate n zs).flatten = [] := List.length_eq_zero_iff.1 (by simp [hzn]; exact h0)
    rw [this]
    simp only [h0, if_true, Sem.run_pure, Result.andThen_ok, e2, Sem.run_bind, zeroCells_flat e1, newRow, run_newObj, World.alloc_eq, List.append_toArray, World.size_drew, List.append_nil]
  · simp only [h0, if_false, Sem.run_bind, e2, Result.andThen_ok, Sem.run_pure, zeroCells_flat e1, newRow, run_newObj, World.alloc_eq, List.append_toArray, World.size_drew]
theorem zs_cells {zs : List Value} {n : Nat} : ∀ (i : Nat) (c : C), ((List.replicate n (zs.map fun z => C.own (.sc z))).flatten)[i]? = some c → ∃ y : Value, ((List.replicate n zs).flatten)[i]? = some y ∧ CellR S w pl c y FS.none := by
  intro i c hi
  have : (List.replicate n (zs.map fun z => C.own (.sc z))).flatten = ((List.replicate n zs).flatten).map fun z => C.own (.sc z) := by
    rw [List.map_flatten, List.map_replicate]
  rw [this, List.getElem?_map, Option.map_eq_some_iff] at hi
  obtain ⟨y, h1, rfl⟩ := hi
  exact ⟨y, h1, by simp only [CellR, VO]⟩
theorem goes_appendZ (h : R X st a w) {call : Call} {x y : Operand} {t u e : TypeId} {r off E len n Bt id : Nat} {k : IntKind} {row : Row} {zs : List Value} (ho : o.op = .call call) (hca : call.callee = .builtin .append) (hargs : call.args = #[x, y]) (hty : call.argTypes = #[t, u]) (ht : tyElem P t = some e) (hu : isI64 P u = true)
    (hE : tySize P e = some E) (hB : tyBytes P e = some Bt) (hB0 : 0 < Bt) (hz : tyZero P e = some zs) (hzn : zs.length = E) (h1 : zs.all (·.oneCell') = true) (hx : st.ev x = some (.sr r off E len)) (hr : st.rows r = some row) (hl : off + len * E ≤ row.cells.length) (hy : st.ev y = some (.v (.sc (.int k n)))) (hn : n ≤ 281474976710656) (hb : n * Bt ≤ 281474976710656) (hbig : (len + n) * Bt ≤ 140737488355328)
    (hid : st.used id = false) (hd : st.fits o.dst) :
    Goes P X o a w { st.put o.dst (.sr id 0 E (len + n)) with rows := upd (upd st.rows r none) id (some ⟨(row.cells.drop off).take (len * E) ++ (List.replicate n (zs.map fun z => C.own (.sc z))).flatten⟩), used := upd st.used id true } := by
  obtain ⟨ρ, Fp, m1, m2⟩ := h.mem
  obtain ⟨e0, ek⟩ := ev_eval m2 hx
  simp only [CR] at e0
  obtain ⟨ad, cap, e1, e2, e3⟩ := e0
  have ey := ev_sc h hy
  obtain ⟨G, k1, k2, k3, k4, k5, k6⟩ := m1.row r row hr
  have h1' : ∀ v ∈ zs, v.oneCell' = true := fun v hv => List.all_eq_true.1 h1 v hv
  have hfl : (List.replicate n zs).flatten.length = n * E := by simp [hzn]
  have hfl2 : ((List.replicate n (zs.map fun z => C.own (.sc z))).flatten : List C).length = n * E := by simp [hzn]
  have hokz : C.okL st.used ((List.replicate n (zs.map fun z => C.own (.sc z))).flatten) := by
    have : (List.replicate n (zs.map fun z => C.own (.sc z))).flatten = (((List.replicate n zs).flatten).map fun z => V.sc z).map C.own := by
      rw [List.map_map, List.map_flatten, List.map_replicate]; rfl
    rw [this]
    exact okL_own _
  have hok : C.ok (upd st.used id true) (.sr id 0 E (len + n)) := by simp only [C.ok, upd_self]
  by_cases hroom : len + n ≤ cap
  · rcases e3 _ (plOf_some hr) with e4 | ⟨e4, e5⟩
    · subst e4
      have hlen0 : len = 0 := by omega
      have hm0 : n = 0 := by omega
      subst hlen0 hm0
      obtain ⟨n1, n2, n3⟩ := m1.extend (off := off) (n := 0 * E) (new := (List.replicate 0 (zs.map fun z => C.own (.sc z))).flatten) (vs := (List.replicate 0 zs).flatten) h.hsub hr hid hl (by simp; omega) zs_cells (by rw [hfl, hfl2]) hokz
      refine goes_value (exec_append ho hca hargs hty (by rw [e1, ey]; exact run_apz_zero ht hu hE hB)) (h.step m2 hd n3 n2 n1 (plOf_fresh hid fun _ _ => plOf_del _ _) used_upd ?_ hok)
      simp only [CR]
      exact ⟨ad, 0, rfl, Nat.le_refl _, fun _ _ => .inl rfl⟩
    · have hcapE : len * E + n * E ≤ cap * E := by rw [← Nat.add_mul]; exact Nat.mul_le_mul_right _ hroom
      obtain ⟨n1, n2, n3⟩ := m1.extend (off := off) (n := len * E) (new := (List.replicate n (zs.map fun z => C.own (.sc z))).flatten) (vs := (List.replicate n zs).flatten) h.hsub hr hid hl (by rw [hfl]; omega) zs_cells (by rw [hfl, hfl2]) hokz
      have hth : w.there (ρ r).b ((ρ r).o + off + len * E) (n * E) := fun j hj => by
        have := k6 (off + len * E + j) (by omega)
        rwa [show (ρ r).o + (off + len * E + j) = (ρ r).o + off + len * E + j by omega] at this
      refine goes_value (exec_append ho hca hargs hty (by rw [e1, e4, ey]; exact run_apz_room ht hu hE hB hz hzn hn hb h1' hth hroom)) (h.step m2 hd n3 n2 n1 (plOf_fresh hid fun _ _ => plOf_del _ _) used_upd ?_ hok)
      simp only [CR]
      refine ⟨_, cap, rfl, hroom, fun p hp => .inr ?_⟩
      simp only [plOf, upd_self, Option.some.injEq] at hp
      subst hp
      exact ⟨by simp, by simp only; omega⟩
  · obtain ⟨olds, p1, p2⟩ := RowR_range _ (RowR_mid k1 off (len * E) hl)
    have p3 : olds.length = len * E := by rw [p2, List.length_take, List.length_drop]; omega
    have hold : (Builtin.firstCells E len (.slice ad len cap)).run P w.drew = .ok olds.toArray w.drew := by
      rcases e3 _ (plOf_some hr) with e4 | ⟨e4, e5⟩
      · have hlen0 : len = 0 := by omega
        subst hlen0
        have ho0 : olds = [] := List.length_eq_zero_iff.1 (by simpa using p3)
        subst ho0
        cases ad with
        | none => simp [Builtin.firstCells]
        | some ad => simp [Builtin.firstCells, loadCells, loadCellsFrom]
      · rw [e4]
        have := run_first (P := P) (E := E) (k := len) (len := len) (cap := cap) (rangeAt_same (w' := w.drew) p1 fun _ => rfl) (by omega)
        rwa [List.take_of_length_le (by omega)] at this
    obtain ⟨cap', zz, q1, q2, q3⟩ := run_apz_grow (w := w) (ty := o.type) (base := ad) (k := k) ht hu hE hB hB0 hz hzn hn hb hold (by omega) hbig
    have hdr : Mem X.S X.K X.B st.rows st.used ρ Fp w.drew := m1.world Same_drew (fun _ _ _ => Same_drew) (Nat.le_refl _)
    obtain ⟨n1, n2, n3⟩ := hdr.moved (ty := e) (zz := zz) (off := off) (new := (List.replicate n (zs.map fun z => C.own (.sc z))).flatten) (vs := (List.replicate n zs).flatten) h.hsub h.heap.2 h.heap.1 hr hid hl (rangeAt_same (w' := w.drew) p1 fun _ => rfl) p3 zs_cells (by rw [hfl, hfl2]) hokz
    refine goes_value (exec_append ho hca hargs hty (by rw [e1, ey]; exact q3)) (h.step m2 hd ((Below.refl _ _).drew.trans n3) (Same.trans Same_drew n2) n1 (plOf_fresh hid fun _ _ => plOf_del _ _) used_upd ?_ hok)
    simp only [CR]
    refine ⟨_, cap', rfl, q1, fun p hp => .inr ?_⟩
    simp only [plOf, upd_self, Option.some.injEq] at hp
    subst hp
    refine ⟨rfl, ?_⟩
    have hs1 : (cap' - (len + n)) * E + (len + n) * E = cap' * E := by rw [← Nat.add_mul]; congr 1; omega
    rw [Nat.add_mul] at hs1
    subst q2
    simp only [List.length_append, flat_length, hzn, p3]
    omega
def evAppZ (P : Program) (lk : St) (call : Call) (id n : Nat) (cs : List C) : Res := match call.args.toList, call.argTypes.toList with
  | [x, y], [t, u] => match tyElem P t, lk.ev x, lk.ev y with
    | some e, some (.sr r off E' len), some (.v (.sc (.int k l))) => match tySize P e, tyBytes P e, tyZero P e, isI64 P u with
      | some E, some Bt, some zs, true => match Nat.beq zs.length E, Nat.blt 0 Bt, zs.all (·.oneCell'), lk.rows r with
        | true, true, true, some row => match Nat.beq E' E with
          | true => some ([l = (n : Int), n ≤ 281474976710656, n * Bt ≤ 281474976710656, off + len * E ≤ row.cells.length, (len + n) * Bt ≤ 140737488355328, (row.cells.drop off).take (len * E) ++ (List.replicate n (zs.map fun z => C.own (.sc z))).flatten = cs], ⟨some (.sr id 0 E (len + n)), [r], [(id, cs)], [id]⟩)
          | false => none
        | _, _, _, _ => none
      | _, _, _, _ => none
    | _, _, _ => none
  | _, _ => none
theorem evAppZ_S {call : Call} {id n : Nat} {cs : List C} (ho : o.op = .call call) (hca : call.callee = .builtin .append) : Sound P o lk (evAppZ P lk call id n cs) := by
  unfold evAppZ
  split
  · rename_i x y t u hx ht
    split
    · rename_i e r off E' len k l he hcx hcy
      split
      · rename_i E Bt zs hE hB hz hu
        split
        · rename_i row h1 h2 h3 hrow
          have h1 := Nat.eq_of_beq_eq_true h1
          have h2 : 1 ≤ Bt := Nat.le_of_ble_eq_true h2
          split
          · rename_i h4
            have h4 := Nat.eq_of_beq_eq_true h4
            subst h4
            intro cs' d e' hc st hs hf hn X a w h
            simp only [Option.some.injEq, Prod.mk.injEq] at e'
            obtain ⟨rfl, rfl⟩ := e'
            simp only [allT, and_true] at hc
            obtain ⟨rfl, c1, c2, c3, c4, rfl⟩ := hc
            exact goes_appendZ h ho hca (arr_of hx) (arr_of ht) he hu hE hB h2 hz h1 h3 (hs.ev hcx) (hs.row hrow) c3 (hs.ev hcy) c1 c2 c4 (hn id (by simp)) hf
          · exact Sound.none
        · exact Sound.none
      · exact Sound.none
    · exact Sound.none
  · exact Sound.none
/-! What is appended is handed over: its row goes. -/
theorem Mem.extendM (h : Mem S K B rows used ρ Fp w) (hsub : S.sub K) {r r2 id off n : Nat} {row row2 : Row} {vs : List Value} (hr : rows r = some row) (hr2 : rows r2 = some row2) (hne : r2 ≠ r) (hid : used id = false) (hl : off + n ≤ row.cells.length) (hext : off + n + vs.length ≤ (ρ r).ext)
    (hvs : w.rangeAt (ρ r2).b (ρ r2).o vs) (hvl : vs.length = row2.cells.length) :
    Mem S K B (upd (upd (upd rows r none) r2 none) id (some ⟨(row.cells.drop off).take n ++ row2.cells⟩)) (upd used id true) (upd ρ id ⟨(ρ r).b, (ρ r).o + off, (ρ r).ext - off⟩) (upd Fp id ((Fp r).or (Fp r2))) (w.setCells (ρ r).b ((ρ r).o + off + n) vs) ∧
    Same K w (w.setCells (ρ r).b ((ρ r).o + off + n) vs) ∧ Below B w (w.setCells (ρ r).b ((ρ r).o + off + n) vs) := by
  obtain ⟨G, h1, h2, h3, h4, h5, h6⟩ := h.row r row hr
  obtain ⟨G2, i1, i2, i3, i4, i5, i6⟩ := h.row r2 row2 hr2
  have hin : ∀ o, (ρ r).o + off + n ≤ o → o < (ρ r).o + off + n + vs.length → (ρ r).fs (ρ r).b o := fun o ho1 ho2 => ⟨rfl, by omega, by omega⟩
  have hKs : Same K w (w.setCells (ρ r).b ((ρ r).o + off + n) vs) := Same_setCells fun o ho1 ho2 hk => h.kdis r row hr _ _ (h3 _ _ (hin o ho1 ho2)) hk
  have hSs := hKs.mono hsub
  have hGs : Same G w (w.setCells (ρ r).b ((ρ r).o + off + n) vs) := Same_setCells fun o ho1 ho2 hg => h5 _ _ (hin o ho1 ho2) hg
  have hFo : ∀ j row', j ≠ r → rows j = some row' → Same (Fp j) w (w.setCells (ρ r).b ((ρ r).o + off + n) vs) := fun j row' hj hrj => Same_setCells fun o ho1 ho2 hf => h.sep r j row row' (Ne.symm hj) hr hrj _ _ (h3 _ _ (hin o ho1 ho2)) hf
  have hB : B ≤ (ρ r).b ∨ vs.length = 0 := by
    by_cases hv : vs.length = 0
    · exact .inr hv
    · exact .inl (h.low r row hr _ _ (h3 _ _ (hin ((ρ r).o + off + n) (Nat.le_refl _) (by omega)))).1
  have hbel : Below B w (w.setCells (ρ r).b ((ρ r).o + off + n) vs) := by
    rcases hB with hB | hB
    · exact Below_setCells hB vs _ (Below.refl _ _)
    · have : vs = [] := List.length_eq_zero_iff.1 hB
      subst this
      exact Below.refl _ _
  refine ⟨?_, hKs, hbel⟩
  have hd := ((h.del r).del r2).world (w' := w.setCells (ρ r).b ((ρ r).o + off + n) vs) hSs (fun j row' hj => by
    have hne2 : j ≠ r2 := by rintro rfl; simp at hj
    rw [upd_ne hne2] at hj
    have hne1 : j ≠ r := by rintro rfl; simp at hj
    rw [upd_ne hne1] at hj
    exact hFo j row' hne1 hj) (by rw [setCells_size]; exact Nat.le_refl _)
  have hplm : ∀ j p, used j = true → plOf (upd (upd rows r none) r2 none) ρ j = some p → plOf rows ρ j = some p := fun j p _ hp => plOf_del j p (plOf_del j p hp)
  have e3 : ((row.cells.drop off).take n).length = n := by rw [List.length_take, List.length_drop]; omega
  refine hd.add (G := G.or G2) hid ?_ ?_ ?_ ?_ (FS.or_sub (h4.trans FS.sub_or_left) (i4.trans FS.sub_or_right)) ?_ ?_ ?_ ?_ ?_
  · have hmid := RowR_mid h1 off n hl
    have hmid' : RowR S (w.setCells (ρ r).b ((ρ r).o + off + n) vs) (plOf (upd (upd rows r none) r2 none) ρ) ((row.cells.drop off).take n) (ρ r).b ((ρ r).o + off) G := by
      refine RowR_mono FS.sub.refl hSs _ (u := used) hplm (okL_mid (h.okc r row hr).2 off n) FS.sub.refl hGs (fun j hj => ?_) hmid
      refine World.cell?_setCells_out _ _ _ _ _ (fun _ _ => .inl ?_)
      rw [e3] at hj
      simp only
      omega
    have hG2s : Same G2 w (w.setCells (ρ r).b ((ρ r).o + off + n) vs) := (hFo r2 row2 hne hr2).mono i4
    have hnew : RowR S (w.setCells (ρ r).b ((ρ r).o + off + n) vs) (plOf (upd (upd rows r none) r2 none) ρ) row2.cells (ρ r).b ((ρ r).o + off + ((row.cells.drop off).take n).length) G2 := by
      rw [e3]
      refine RowR_move _ (u := used) hplm (h.okc r2 row2 hr2).2 hSs hG2s (fun j x hj hx => ?_) i1
      have hjv : j < vs.length := by omega
      have := hvs j _ (List.getElem?_eq_getElem hjv)
      rw [hx, Option.some.injEq] at this
      rw [World.cell?_setCells_in _ vs _ w (fun j hj => by
        have := (h6 (off + n + j) (by omega)).1
        rwa [show (ρ r).o + (off + n + j) = (ρ r).o + off + n + j by omega] at this) j hjv, this]
    exact RowR_append _ _ hmid' hnew ((h.sep r r2 row row2 (Ne.symm hne) hr hr2).mono h4 i4)
  · exact okL_append.2 ⟨okL_mid (h.okc r row hr).2 off n, (h.okc r2 row2 hr2).2⟩
  · rw [List.length_append, e3]; simp only; omega
  · exact fun b' o' ⟨e1, e2, e3⟩ => .inl (h3 _ _ ⟨e1, by simp only at e2; omega, by simp only at e3; omega⟩)
  · intro b' o' ⟨e1, e2, e3⟩ hg
    have hfs : (ρ r).fs b' o' := ⟨e1, by simp only at e2; omega, by simp only at e3; omega⟩
    rcases hg with hg | hg
    · exact h5 _ _ hfs hg
    · exact h.sep r r2 row row2 (Ne.symm hne) hr hr2 _ _ (h3 _ _ hfs) (i4 _ _ hg)
  · refine Free_setCells vs _ fun j hj => ?_
    have := h6 (off + j) (by simp only at hj; omega)
    simp only
    rwa [show (ρ r).o + (off + j) = (ρ r).o + off + j by omega] at this
  · intro j row' hj
    have hne2 : j ≠ r2 := by rintro rfl; simp at hj
    rw [upd_ne hne2] at hj
    have hne1 : j ≠ r := by rintro rfl; simp at hj
    rw [upd_ne hne1] at hj
    exact FS.or_dis (h.sep r j row row' (Ne.symm hne1) hr hj) (h.sep r2 j row2 row' (Ne.symm hne2) hr2 hj)
  · exact FS.or_dis (h.kdis r row hr) (h.kdis r2 row2 hr2)
  · intro b' o' hf
    rw [setCells_size]
    rcases hf with hf | hf
    · exact h.low r row hr _ _ hf
    · exact h.low r2 row2 hr2 _ _ hf
theorem Mem.movedM (h : Mem S K B rows used ρ Fp w) (hsub : S.sub K) (hKlt : ∀ b o, K b o → b < w.heap.size) (hB : B ≤ w.heap.size) {r r2 id off n : Nat} {row row2 : Row} {olds vs zz : List Value} {ty : TypeId} (hr : rows r = some row) (hr2 : rows r2 = some row2) (hne : r2 ≠ r) (hid : used id = false) (hl : off + n ≤ row.cells.length)
    (hold : w.rangeAt (ρ r).b ((ρ r).o + off) olds) (hol : olds.length = n) (hvs : w.rangeAt (ρ r2).b (ρ r2).o vs) (hvl : vs.length = row2.cells.length) :
    Mem S K B (upd (upd (upd rows r none) r2 none) id (some ⟨(row.cells.drop off).take n ++ row2.cells⟩)) (upd used id true) (upd ρ id ⟨w.heap.size, 0, (olds ++ vs ++ zz).length⟩) (upd Fp id ((chunk w.heap.size 0 (olds ++ vs ++ zz).length).or ((Fp r).or (Fp r2)))) (w.alloc (.cells (olds ++ vs ++ zz).toArray ty)) ∧
    Same K w (w.alloc (.cells (olds ++ vs ++ zz).toArray ty)) ∧ Below B w (w.alloc (.cells (olds ++ vs ++ zz).toArray ty)) := by
  obtain ⟨G, h1, h2, h3, h4, h5, h6⟩ := h.row r row hr
  obtain ⟨G2, i1, i2, i3, i4, i5, i6⟩ := h.row r2 row2 hr2
  have hKs : Same K w (w.alloc (.cells (olds ++ vs ++ zz).toArray ty)) := Same_alloc hKlt
  have hSs := hKs.mono hsub
  have hGs : Same G w (w.alloc (.cells (olds ++ vs ++ zz).toArray ty)) := Same_alloc fun b o hg => (h.low r row hr b o (h4 b o hg)).2
  have hG2s : Same G2 w (w.alloc (.cells (olds ++ vs ++ zz).toArray ty)) := Same_alloc fun b o hg => (h.low r2 row2 hr2 b o (i4 b o hg)).2
  refine ⟨?_, hKs, (Below.refl _ _).alloc hB _⟩
  have hd := ((h.del r).del r2).world (w' := w.alloc (.cells (olds ++ vs ++ zz).toArray ty)) hSs (fun j row' hj => by
    have hne2 : j ≠ r2 := by rintro rfl; simp at hj
    rw [upd_ne hne2] at hj
    have hne1 : j ≠ r := by rintro rfl; simp at hj
    rw [upd_ne hne1] at hj
    exact Same_alloc fun b o hf => (h.low j row' hj b o hf).2) (by simp)
  have hplm : ∀ j p, used j = true → plOf (upd (upd rows r none) r2 none) ρ j = some p → plOf rows ρ j = some p := fun j p _ hp => plOf_del j p (plOf_del j p hp)
  have e3 : ((row.cells.drop off).take n).length = n := by rw [List.length_take, List.length_drop]; omega
  refine hd.add (G := G.or G2) hid ?_ ?_ ?_ FS.sub_or_left (FS.or_sub (h4.trans (FS.sub_or_left.trans FS.sub_or_right)) (i4.trans (FS.sub_or_right.trans FS.sub_or_right))) ?_ ?_ ?_ ?_ ?_
  · have hmid := RowR_mid h1 off n hl
    have hmid' : RowR S (w.alloc (.cells (olds ++ vs ++ zz).toArray ty)) (plOf (upd (upd rows r none) r2 none) ρ) ((row.cells.drop off).take n) w.heap.size 0 G := by
      refine RowR_move _ (u := used) hplm (okL_mid (h.okc r row hr).2 off n) hSs hGs (fun j x hj hx => ?_) hmid
      rw [e3] at hj
      have hjo : j < olds.length := by omega
      have e4 := hold j _ (List.getElem?_eq_getElem hjo)
      rw [hx] at e4
      simp only [Nat.zero_add, World.cell?_alloc_new, List.getElem?_toArray, List.append_assoc]
      rw [List.getElem?_append_left hjo, List.getElem?_eq_getElem hjo]
      exact e4.symm
    have hnew : RowR S (w.alloc (.cells (olds ++ vs ++ zz).toArray ty)) (plOf (upd (upd rows r none) r2 none) ρ) row2.cells w.heap.size (0 + ((row.cells.drop off).take n).length) G2 := by
      refine RowR_move _ (u := used) hplm (h.okc r2 row2 hr2).2 hSs hG2s (fun j x hj hx => ?_) i1
      have hjv : j < vs.length := by omega
      have e4 := hvs j _ (List.getElem?_eq_getElem hjv)
      rw [hx] at e4
      simp only [e3, Nat.zero_add, World.cell?_alloc_new, List.getElem?_toArray, List.append_assoc]
      rw [List.getElem?_append_right (by omega), List.getElem?_append_left (by omega), show n + j - olds.length = j by omega, List.getElem?_eq_getElem hjv]
      exact e4.symm
    exact RowR_append _ _ hmid' hnew ((h.sep r r2 row row2 (Ne.symm hne) hr hr2).mono h4 i4)
  · exact okL_append.2 ⟨okL_mid (h.okc r row hr).2 off n, (h.okc r2 row2 hr2).2⟩
  · simp only [List.length_append, e3]; omega
  · intro b' o' hf hg
    have e1 := hf.1
    simp only at e1
    rcases hg with hg | hg
    · have := (h.low r row hr _ _ (h4 _ _ hg)).2; omega
    · have := (h.low r2 row2 hr2 _ _ (i4 _ _ hg)).2; omega
  · intro j hj
    simp only [Nat.zero_add]
    refine ⟨by rw [World.cell?_alloc_new]; simp only [List.getElem?_toArray]; rw [List.getElem?_eq_getElem hj]; rfl, World.frozen?_alloc_new _ _ _ _⟩
  · intro j row' hj
    have hne2 : j ≠ r2 := by rintro rfl; simp at hj
    rw [upd_ne hne2] at hj
    have hne1 : j ≠ r := by rintro rfl; simp at hj
    rw [upd_ne hne1] at hj
    refine FS.or_dis (fun b o h7 h8 => ?_) (FS.or_dis (h.sep r j row row' (Ne.symm hne1) hr hj) (h.sep r2 j row2 row' (Ne.symm hne2) hr2 hj))
    have e1 := h7.1
    have := (h.low j row' hj b o h8).2
    omega
  · refine FS.or_dis (fun b o h7 h8 => ?_) (FS.or_dis (h.kdis r row hr) (h.kdis r2 row2 hr2))
    have e1 := h7.1
    have := hKlt b o h8
    omega
  · intro b o hf
    rw [World.size_alloc]
    rcases hf with hf | hf | hf
    · have e1 := hf.1; omega
    · have := h.low r row hr b o hf; omega
    · have := h.low r2 row2 hr2 b o hf; omega
theorem RowR_one : ∀ (ts : List V) {b o : Nat} {G : FS} {vs : List Value}, ts.all oneV = true → RowR S w pl (ts.map C.own) b o G → w.rangeAt b o vs → vs.length = ts.length → ∀ v ∈ vs, v.oneCell' = true
  | [], _, _, _, vs, _, _, _, hl, v, hv => by
    have : vs = [] := List.length_eq_zero_iff.1 (by simpa using hl)
    subst this
    simp at hv
  | t :: ts, b, o, G, vs, h1, h, hr, hl, v, hv => by
    cases vs with
    | nil => simp at hv
    | cons y vs =>
      simp only [List.all_cons, Bool.and_eq_true] at h1
      simp only [List.map_cons, RowR, CellR] at h
      obtain ⟨x, G1, G2, k1, k2, k3, _, _, _⟩ := h
      have e := hr 0 y rfl
      rw [Nat.add_zero, k1, Option.some.injEq] at e
      subst e
      rcases List.mem_cons.1 hv with rfl | hv
      · exact oneV_cell h1.1 (VO_VI t k2 (S' := S.or G1) FS.sub.refl)
      · refine RowR_one ts h1.2 k3 (fun j z hz => ?_) (by simpa using hl) v hv
        have := hr (j + 1) z (by simpa using hz)
        rwa [show o + (j + 1) = o + 1 + j by omega] at this
theorem goes_appendM (h : R X st a w) {call : Call} {x y : Operand} {t u e : TypeId} {r r2 off E len m Bt id : Nat} {row row2 : Row} {ts : List V} {zs : List Value} (ho : o.op = .call call) (hca : call.callee = .builtin .append) (hargs : call.args = #[x, y]) (hty : call.argTypes = #[t, u]) (ht : tyElem P t = some e) (hu : notInt P u = true)
    (hE : tySize P e = some E) (hB : tyBytes P e = some Bt) (hB0 : 0 < Bt) (hz : tyZero P e = some zs) (hzn : zs.length = E) (hx : st.ev x = some (.sr r off E len)) (hr : st.rows r = some row) (hl : off + len * E ≤ row.cells.length) (hy : st.ev y = some (.sr r2 0 E m)) (hr2 : st.rows r2 = some row2) (hcs : row2.cells = ts.map C.own) (hts : ts.length = m * E) (hne : r2 ≠ r) (h1 : ts.all oneV = true) (hbig : (len + m) * Bt ≤ 140737488355328)
    (hid : st.used id = false) (hd : st.fits o.dst) :
    Goes P X o a w { st.put o.dst (.sr id 0 E (len + m)) with rows := upd (upd (upd st.rows r none) r2 none) id (some ⟨(row.cells.drop off).take (len * E) ++ row2.cells⟩), used := upd st.used id true } := by
  obtain ⟨ρ, Fp, m1, m2⟩ := h.mem
  obtain ⟨e0, ek⟩ := ev_eval m2 hx
  simp only [CR] at e0
  obtain ⟨ad, cap, e1, e2, e3⟩ := e0
  obtain ⟨f0, fk⟩ := ev_eval m2 hy
  simp only [CR] at f0
  obtain ⟨ad2, cap2, f1, f2, f3⟩ := f0
  obtain ⟨G, k1, k2, k3, k4, k5, k6⟩ := m1.row r row hr
  obtain ⟨G2, i1, i2, i3, i4, i5, i6⟩ := m1.row r2 row2 hr2
  obtain ⟨vs, g1, g2⟩ := RowR_range _ i1
  have g3 : vs.length = m * E := by rw [g2, hcs, List.length_map, hts]
  have gone : ∀ v ∈ vs, v.oneCell' = true := RowR_one ts h1 (by rw [← hcs]; exact i1) g1 (by rw [g3, hts])
  have hlen : ∀ w', (Builtin.lenOf (a.eval y)).run P w' = .ok m w' := fun w' => by rw [f1]; rfl
  have hfirst : ∀ w', (∀ ad, w'.cell? ad = w.cell? ad) → (Builtin.firstCells E m (a.eval y)).run P w' = .ok vs.toArray w' := fun w' hw' => by
    rw [f1]
    rcases f3 _ (plOf_some hr2) with f4 | ⟨f4, f5⟩
    · have hm0 : m = 0 := by omega
      subst hm0
      have hv0 : vs = [] := List.length_eq_zero_iff.1 (by simpa using g3)
      subst hv0
      cases ad2 with
      | none => simp [Builtin.firstCells]
      | some ad => simp [Builtin.firstCells, loadCells, loadCellsFrom]
    · rw [f4]
      have := run_first (P := P) (E := E) (k := m) (len := m) (cap := cap2) (rangeAt_same (w' := w') g1 hw') (by omega)
      rwa [List.take_of_length_le (by omega)] at this
  have hok : C.ok (upd st.used id true) (.sr id 0 E (len + m)) := by simp only [C.ok, upd_self]
  have hpl : ∀ j q, plOf (upd (upd st.rows r none) r2 none) ρ j = some q → plOf st.rows ρ j = some q := fun j q hq => plOf_del j q (plOf_del j q hq)
  by_cases hroom : len + m ≤ cap
  · rcases e3 _ (plOf_some hr) with e4 | ⟨e4, e5⟩
    · subst e4
      have hlen0 : len = 0 := by omega
      have hm0 : m = 0 := by omega
      subst hlen0 hm0
      have hv0 : vs = [] := List.length_eq_zero_iff.1 (by simpa using g3)
      subst hv0
      obtain ⟨n1, n2, n3⟩ := m1.extendM (off := off) (n := 0 * E) h.hsub hr hr2 hne hid hl (by simp; omega) g1 g2
      refine goes_value (exec_append ho hca hargs hty (by rw [e1]; exact run_append_zero ht hu hE hlen (hfirst w fun _ => rfl))) (h.step m2 hd n3 n2 n1 (plOf_fresh hid hpl) used_upd ?_ hok)
      simp only [CR]
      exact ⟨ad, 0, rfl, Nat.le_refl _, fun _ _ => .inl rfl⟩
    · have hcapE : len * E + m * E ≤ cap * E := by rw [← Nat.add_mul]; exact Nat.mul_le_mul_right _ hroom
      obtain ⟨n1, n2, n3⟩ := m1.extendM (off := off) (n := len * E) h.hsub hr hr2 hne hid hl (by rw [g3]; omega) g1 g2
      have hth : w.there (ρ r).b ((ρ r).o + off + len * E) vs.length := fun j hj => by
        have := k6 (off + len * E + j) (by omega)
        rwa [show (ρ r).o + (off + len * E + j) = (ρ r).o + off + len * E + j by omega] at this
      refine goes_value (exec_append ho hca hargs hty (by rw [e1, e4]; exact run_append_room ht hu hE hlen (hfirst w fun _ => rfl) gone hth hroom)) (h.step m2 hd n3 n2 n1 (plOf_fresh hid hpl) used_upd ?_ hok)
      simp only [CR]
      refine ⟨_, cap, rfl, hroom, fun p hp => .inr ?_⟩
      simp only [plOf, upd_self, Option.some.injEq] at hp
      subst hp
      exact ⟨by simp, by simp only; omega⟩
  · obtain ⟨olds, p1, p2⟩ := RowR_range _ (RowR_mid k1 off (len * E) hl)
    have p3 : olds.length = len * E := by rw [p2, List.length_take, List.length_drop]; omega
    have hold : (Builtin.firstCells E len (.slice ad len cap)).run P w.drew = .ok olds.toArray w.drew := by
      rcases e3 _ (plOf_some hr) with e4 | ⟨e4, e5⟩
      · have hlen0 : len = 0 := by omega
        subst hlen0
        have ho0 : olds = [] := List.length_eq_zero_iff.1 (by simpa using p3)
        subst ho0
        cases ad with
        | none => simp [Builtin.firstCells]
        | some ad => simp [Builtin.firstCells, loadCells, loadCellsFrom]
      · rw [e4]
        have := run_first (P := P) (E := E) (k := len) (len := len) (cap := cap) (rangeAt_same (w' := w.drew) p1 fun _ => rfl) (by omega)
        rwa [List.take_of_length_le (by omega)] at this
    obtain ⟨cap', zz, q1, q2, q3⟩ := run_append_grow (w := w) (ty := o.type) (base := ad) ht hu hE hB hB0 hz hlen (hfirst w.drew fun _ => rfl) hold (by omega) hbig
    have hdr : Mem X.S X.K X.B st.rows st.used ρ Fp w.drew := m1.world Same_drew (fun _ _ _ => Same_drew) (Nat.le_refl _)
    obtain ⟨n1, n2, n3⟩ := hdr.movedM (ty := e) (zz := zz) (off := off) h.hsub h.heap.2 h.heap.1 hr hr2 hne hid hl (rangeAt_same (w' := w.drew) p1 fun _ => rfl) p3 (rangeAt_same (w' := w.drew) g1 fun _ => rfl) g2
    refine goes_value (exec_append ho hca hargs hty (by rw [e1]; exact q3)) (h.step m2 hd ((Below.refl _ _).drew.trans n3) (Same.trans Same_drew n2) n1 (plOf_fresh hid hpl) used_upd ?_ hok)
    simp only [CR]
    refine ⟨_, cap', rfl, q1, fun p hp => .inr ?_⟩
    simp only [plOf, upd_self, Option.some.injEq] at hp
    subst hp
    refine ⟨rfl, ?_⟩
    have hs1 : (cap' - (len + m)) * E + (len + m) * E = cap' * E := by rw [← Nat.add_mul]; congr 1; omega
    rw [Nat.add_mul] at hs1
    subst q2
    simp only [List.length_append, flat_length, hzn, p3, g3]
    omega
def evAppM (P : Program) (lk : St) (call : Call) (id : Nat) (ts : List V) (cs : List C) : Res := match call.args.toList, call.argTypes.toList with
  | [x, y], [t, u] => match tyElem P t, lk.ev x, lk.ev y with
    | some e, some (.sr r off E' len), some (.sr r2 off2 E2 m) => match tySize P e, tyBytes P e, tyZero P e, notInt P u with
      | some E, some Bt, some zs, true => match Nat.beq zs.length E, Nat.blt 0 Bt, lk.rows r, lk.rows r2 with
        | true, true, some row, some row2 => match Nat.beq E' E, Nat.beq E2 E, Nat.beq off2 0, Nat.beq r2 r with
          | true, true, true, false => some ([row2.cells = ts.map C.own, ts.length = m * E, ts.all oneV = true, off + len * E ≤ row.cells.length, (len + m) * Bt ≤ 140737488355328, (row.cells.drop off).take (len * E) ++ ts.map C.own = cs], ⟨some (.sr id 0 E (len + m)), [r, r2], [(id, cs)], [id]⟩)
          | _, _, _, _ => none
        | _, _, _, _ => none
      | _, _, _, _ => none
    | _, _, _ => none
  | _, _ => none
theorem evAppM_S {call : Call} {id : Nat} {ts : List V} {cs : List C} (ho : o.op = .call call) (hca : call.callee = .builtin .append) : Sound P o lk (evAppM P lk call id ts cs) := by
  unfold evAppM
  split
  · rename_i x y t u hx ht
    split
    · rename_i e r off E' len r2 off2 E2 m he hcx hcy
      split
      · rename_i E Bt zs hE hB hz hu
        split
        · rename_i row row2 h1 h2 hrow hrow2
          have h1 := Nat.eq_of_beq_eq_true h1
          have h2 : 1 ≤ Bt := Nat.le_of_ble_eq_true h2
          split
          · rename_i h4 h5 h6 h7
            have h4 := Nat.eq_of_beq_eq_true h4
            have h5 := Nat.eq_of_beq_eq_true h5
            have h6 := Nat.eq_of_beq_eq_true h6
            subst h4
            subst h5
            subst h6
            intro cs' d e' hc st hs hf hn X a w h
            simp only [Option.some.injEq, Prod.mk.injEq] at e'
            obtain ⟨rfl, rfl⟩ := e'
            simp only [allT, and_true] at hc
            obtain ⟨c1, c2, c3, c4, c5, rfl⟩ := hc
            have := goes_appendM (P := P) h ho hca (arr_of hx) (arr_of ht) he hu hE hB h2 hz h1 (hs.ev hcx) (hs.row hrow) c4 (hs.ev hcy) (hs.row hrow2) c1 c2 (beqF h7) c3 c5 (hn id (by simp)) hf
            rw [c1] at this
            exact this
          · exact Sound.none
        · exact Sound.none
      · exact Sound.none
    · exact Sound.none
  · exact Sound.none
end
end Go.Eng
set_option linter.unusedVariables false
namespace Go.Eng
/-! The state as lists, one operation, a region. -/
def look {α : Type} : List (Nat × α) → Nat → Option α
  | [], _ => none
  | (k, v) :: l, j => match Nat.beq k j with
    | true => some v
    | false => look l j
structure SL where
  N : Nat
  args : List C
  env : List (Nat × C)
  rows : List (Nat × List C)
  used : List Nat
def rlook (l : List (Nat × List C)) : Rows := fun r => match look l r with
  | some cs => some ⟨cs⟩
  | none => none
def SL.st (s : SL) : St := { N := s.N, args := s.args, env := look s.env, rows := rlook s.rows, used := fun r => memN r s.used }
def delK {α : Type} (k : Nat) : List (Nat × α) → List (Nat × α)
  | [] => []
  | (j, v) :: l => match Nat.beq j k with
    | true => delK k l
    | false => (j, v) :: delK k l
def delKs (l : List (Nat × List C)) : List Nat → List (Nat × List C)
  | [] => l
  | r :: rs => delKs (delK r l) rs
def setKs (l : List (Nat × List C)) : List (Nat × List C) → List (Nat × List C)
  | [] => l
  | (r, cs) :: k => setKs ((r, cs) :: delK r l) k
def addKs (l : List Nat) : List Nat → List Nat
  | [] => l
  | r :: k => addKs (r :: l) k
def freshAll (u : List Nat) : List Nat → Bool
  | [] => true
  | r :: l => match memN r u with
    | true => false
    | false => freshAll u l
def putEnv (env : List (Nat × C)) : Option Tmp → Option C → List (Nat × C)
  | some k, some c => (k, c) :: env
  | _, _ => env
def fitsB (N : Nat) : Option Tmp → Bool
  | some k => Nat.blt k N
  | none => true
def SL.app (s : SL) (dst : Option Tmp) (d : Dl) : Option SL := match fitsB s.N dst, freshAll s.used d.new with
  | true, true => some { N := s.N, args := s.args, env := putEnv s.env dst d.put, rows := setKs (delKs s.rows d.del) d.set, used := addKs s.used d.new }
  | _, _ => none
section
variable {P : Program} {X : Ctx} {o : Oper} {lk st st' : St} {a : Act} {w w' : World} {s s' s1 : SL}
theorem beq_false {i j : Nat} (h : Nat.beq i j = false) : i ≠ j := by
  rintro rfl
  rw [Nat.beq_refl] at h
  cases h
theorem look_cons {α : Type} {k : Nat} {v : α} {l : List (Nat × α)} : look ((k, v) :: l) = upd (look l) k (some v) := by
  funext j
  simp only [look, upd]
  split
  · rename_i h
    rw [if_pos (Nat.eq_of_beq_eq_true h).symm]
  · rename_i h
    rw [if_neg (Ne.symm (beq_false h))]
theorem look_delK {α : Type} {k : Nat} : ∀ {l : List (Nat × α)}, look (delK k l) = upd (look l) k none
  | [] => by
    funext j
    simp only [delK, look, upd]
    split <;> rfl
  | (i, v) :: l => by
    simp only [delK]
    split
    · rename_i h
      have h := Nat.eq_of_beq_eq_true h
      subst h
      rw [look_delK, look_cons, upd_upd]
    · rename_i h
      have h := beq_false h
      rw [look_cons, look_cons, look_delK]
      funext j
      simp only [upd]
      by_cases h1 : j = i
      · subst h1; rw [if_pos rfl, if_neg h, if_pos rfl]
      · rw [if_neg h1, if_neg h1]
theorem rlook_cons {r : Nat} {cs : List C} {l : List (Nat × List C)} : rlook ((r, cs) :: l) = upd (rlook l) r (some ⟨cs⟩) := by
  funext j
  simp only [rlook, look_cons, upd]
  by_cases h : j = r
  · rw [if_pos h, if_pos h]
  · rw [if_neg h, if_neg h]
theorem rlook_delK {r : Nat} {l : List (Nat × List C)} : rlook (delK r l) = upd (rlook l) r none := by
  funext j
  simp only [rlook, look_delK, upd]
  by_cases h : j = r
  · rw [if_pos h, if_pos h]
  · rw [if_neg h, if_neg h]
theorem rlook_delKs : ∀ (g : List Nat) (l : List (Nat × List C)), rlook (delKs l g) = delRows (rlook l) g
  | [], _ => rfl
  | r :: g, l => by simp only [delKs, delRows, rlook_delKs g, rlook_delK]
theorem rlook_setKs : ∀ (k l : List (Nat × List C)), rlook (setKs l k) = setRows (rlook l) k
  | [], _ => rfl
  | (r, cs) :: k, l => by simp only [setKs, setRows, rlook_setKs k, rlook_cons, rlook_delK, upd_upd]
theorem memN_cons {r : Nat} {l : List Nat} : (fun j => memN j (r :: l)) = upd (fun j => memN j l) r true := by
  funext j
  simp only [memN, upd]
  split
  · rename_i h
    rw [if_pos (Nat.eq_of_beq_eq_true h).symm]
  · rename_i h
    rw [if_neg (Ne.symm (beq_false h))]
theorem memN_addKs : ∀ (k l : List Nat), (fun j => memN j (addKs l k)) = newUsed (fun j => memN j l) k
  | [], _ => rfl
  | r :: k, l => by simp only [addKs, newUsed, memN_addKs k, memN_cons]
theorem freshAll_S {u : List Nat} : ∀ {l : List Nat}, freshAll u l = true → ∀ id ∈ l, memN id u = false
  | [], _, id, h => by simp at h
  | r :: l, h, id, hm => by
    simp only [freshAll] at h
    split at h
    · cases h
    · rename_i h1
      rcases List.mem_cons.1 hm with rfl | h2
      · exact h1
      · exact freshAll_S h id h2
theorem fitsB_S {N : Nat} {dst : Option Tmp} (h : fitsB N dst = true) (hN : s.N = N) : s.st.fits dst := fun d e => by
  subst e
  have : d + 1 ≤ N := Nat.le_of_ble_eq_true h
  simp only [SL.st, hN]
  exact this
theorem SL.app_st {dst : Option Tmp} {d : Dl} (h : s.app dst d = some s') : s'.st = s.st.app dst d ∧ s.st.fits dst ∧ ∀ id ∈ d.new, s.st.used id = false := by
  unfold SL.app at h
  split at h
  · rename_i h1 h2
    simp only [Option.some.injEq] at h
    subst h
    refine ⟨?_, fitsB_S h1 rfl, freshAll_S h2⟩
    simp only [SL.st, St.app, rlook_setKs, rlook_delKs, memN_addKs]
    cases dst with
    | none => cases d.put <;> rfl
    | some k =>
      cases d.put with
      | none => rfl
      | some c => simp only [putEnv, look_cons, St.putO, St.put]
  · cases h
end
/-- Ghosts: steps of the telling alone. -/
inductive G where
  | fold (r i fuel : Nat) (O : Orc)
  | foldD (r i fuel : Nat) (O : Orc) (c : C) (cs : List C)
  | opn (r i id : Nat)
  | opnD (r i id : Nat) (t : V) (cs : List C)
  | nilE (k id E : Nat)
  | nilC (r i E : Nat)
  | nilA (r : Nat) (cs : List C)
  | row (r : Nat) (cs : List C)
  | env (k : Nat) (c : C)
inductive Hint where
  | h (h : H)
  | call (k : CH)
  | g (g : G)
  | any (tss : List (List Nat))
  | skip
/-- Does the operation take a hint? -/
def takes : Op → Bool
  | .move _ | .assign _ | .fieldAddr _ _ _ | .field _ _ _ | .extract _ _ | .nilCheck _ | .pick _ _ _ | .makeFunc _ _ _ | .build _ _ => false
  | _ => true
def evOp (P : Program) (o : Oper) (lk : St) (hi : Hint) : Res := match o.op, hi with
  | .move x, _ => evMv lk x
  | .assign x, _ => evMv lk x
  | .fieldAddr t x f, _ => evFA P lk t x f
  | .field t x f, _ => evField P lk t x f
  | .extract x i, _ => evEx lk x i
  | .nilCheck x, _ => evNC lk x
  | .pick x y z, _ => evPick lk x y z
  | .makeFunc (.func f) first caps, _ => match first.toList with
    | [] => evMF lk f caps
    | _ => none
  | .build t parts, _ => evBuild P lk t parts
  | .binOp op t x y _, .h .dv => evDiv lk op x y
  | .binOp op t x y _, .h .np => evNil P lk op t x y
  | .binOp op t x y _, .h .sa => evSAd lk op x y
  | .binOp op t x y _, .h h => evBin P lk op t x y h
  | .unOp op _ x, .h h => ev1 P lk (Op.unary op) x h
  | .convert src dst x, .h h => ev1 P lk (convert src dst) x h
  | .index t x y, .h (.si j) => evSI P lk t x y j
  | .load t x, .h (.opn id tr cs) => evLoadO P lk t x id tr cs
  | .load t x, .h h => evLoad P lk t x h
  | .store t x y, .h (.cls O n cs) => evStoreC P lk t x y o.dst O n cs
  | .store t x y, .h h => evStore P lk t x y o.dst h
  | .indexAddr t x y, .h h => evIA P lk t x y h
  | .slice t x none none none, .h .auto => evSA P lk t x
  | .slice t x lo hi none, .h (.ss l u) => evSS P lk t x lo hi l u
  | .slice t x lo hi none, .h (.sct l u id cs) => evSlC P lk t x lo hi o.dst l u id cs
  | .slice t x lo hi none, .h h => evSl P lk t x lo hi h
  | .slice t x none (some hi) (some mx), .h h => evS0 P lk t x hi mx h
  | .alloc t, .h h => evAlloc P t h
  | .box t y, .h h => evBox P lk y h
  | .buildSlice t len parts, .h h => evBS P lk t len parts h
  | .makeSlice t x y, .h h => evMS P lk t x y h
  | .call call, .call k => evCall P lk call k
  | .call call, .h (.apc id O n cs) => match call.callee with
    | .builtin .append => evAppC P lk call id O n cs
    | _ => none
  | .call call, .h (.apz id n cs) => match call.callee with
    | .builtin .append => evAppZ P lk call id n cs
    | _ => none
  | .call call, .h (.apm id ts cs) => match call.callee with
    | .builtin .append => evAppM P lk call id ts cs
    | _ => none
  | .call call, .h .mm => match call.callee with
    | .builtin .min => evMM lk false call
    | .builtin .max => evMM lk true call
    | _ => none
  | .call call, .h .sa => match call.callee with
    | .builtin .len => evLenS P lk call .auto
    | _ => none
  | .call call, .h h => match call.callee with
    | .builtin .len => evLen P lk call h
    | .builtin .append => evApp P lk call h
    | .builtin .copy => evCopy P lk call h
    | _ => none
  | _, _ => none
section
variable {P : Program} {X : Ctx} {o : Oper} {lk st st' : St} {a : Act} {w w' : World} {s s' s1 : SL} {ops : Array Oper}
theorem evOp_S {hi : Hint} : Sound P o lk (evOp P o lk hi) := by
  unfold evOp
  split
  · rename_i x h1; exact evMv_S (.inl h1)
  · rename_i x h1; exact evMv_S (.inr h1)
  · rename_i h1; exact evFA_S h1
  · rename_i h1; exact evField_S h1
  · rename_i h1; exact evEx_S h1
  · rename_i h1; exact evNC_S h1
  · rename_i h1; exact evPick_S h1
  · rename_i f first caps h1
    split
    · rename_i h2
      refine evMF_S ?_
      rw [h1, arr_of h2]
    · exact Sound.none
  · rename_i h1; exact evBuild_S h1
  · rename_i h1; exact evDiv_S h1
  · rename_i h1; exact evNil_S h1
  · rename_i h1; exact evSAd_S h1
  · rename_i h1; exact evBin_S h1
  · rename_i h1
    refine ev1_S fun ρ => ?_
    unfold execOp
    rw [h1]
  · rename_i h1
    refine ev1_S fun ρ => ?_
    unfold execOp
    rw [h1]
  · rename_i h1; exact evSI_S h1
  · rename_i h1; exact evLoadO_S h1
  · rename_i h1; exact evLoad_S h1
  · rename_i h1; exact evStoreC_S h1
  · rename_i h1; exact evStore_S h1
  · rename_i h1; exact evIA_S h1
  · rename_i h1; exact evSA_S h1
  · rename_i h1; exact evSS_S h1
  · rename_i h1; exact evSlC_S h1
  · rename_i h1; exact evSl_S h1
  · rename_i h1; exact evS0_S h1
  · rename_i h1; exact evAlloc_S h1
  · rename_i h1; exact evBox_S h1
  · rename_i h1; exact evBS_S h1
  · rename_i h1; exact evMS_S h1
  · rename_i h1; exact evCall_S h1
  · rename_i h1
    split
    · rename_i h2; exact evAppC_S h1 h2
    · exact Sound.none
  · rename_i h1
    split
    · rename_i h2; exact evAppZ_S h1 h2
    · exact Sound.none
  · rename_i h1
    split
    · rename_i h2; exact evAppM_S h1 h2
    · exact Sound.none
  · rename_i h1
    split
    · rename_i h2; exact evMM_S (mx := false) h1 h2
    · rename_i h2; exact evMM_S (mx := true) h1 h2
    · exact Sound.none
  · rename_i h1
    split
    · rename_i h2; exact evLenS_S h1 h2
    · exact Sound.none
  · rename_i h1
    split
    · rename_i h2; exact evLen_S h1 h2
    · rename_i h2; exact evApp_S h1 h2
    · rename_i h2; exact evCopy_S h1 h2
    · exact Sound.none
  · exact Sound.none
end
end Go.Eng
set_option linter.unusedVariables false
namespace Go.Eng
open Go.RowKit (Below)
/-! Telling a state in other words: rows under other numbers, less of it. -/
mutual
def renC (π : Nat → Nat) : C → C
  | .v t => .v t
  | .own t => .own t
  | .sr r off E len => .sr (π r) off E len
  | .pr r off => .pr (π r) off
  | .ag cs => .ag (renL π cs)
  | .tp cs => .tp (renL π cs)
  | .fn f cs => .fn f (renL π cs)
  | .dead => .dead
def renL (π : Nat → Nat) : List C → List C
  | [] => []
  | c :: cs => renC π c :: renL π cs
end
mutual
def okB (u : List Nat) : C → Bool
  | .v _ | .own _ | .dead => true
  | .sr r _ _ _ | .pr r _ => memN r u
  | .ag cs | .tp cs | .fn _ cs => okBL u cs
def okBL (u : List Nat) : List C → Bool
  | [] => true
  | c :: cs => match okB u c with
    | true => okBL u cs
    | false => false
end
def piOf (l : List (Nat × Nat)) (r : Nat) : Nat := match look l r with
  | some q => q
  | none => 0
section
variable {P : Program} {X : Ctx} {o : Oper} {lk st st' : St} {a : Act} {w w' : World} {s s' s1 : SL} {S : FS} {pl pl' : Nat → Option Pl} {π : Nat → Nat} {u : List Nat}
mutual
theorem CR_ren (hp : ∀ r p, pl' r = some p → pl (π r) = some p) : ∀ (c : C) {x : Value}, CR S w pl (renC π c) x → CR S w pl' c x
  | .v t, _, h => by simp only [renC] at h; simpa only [CR] using h
  | .own _, _, h => by simp only [renC, CR] at h
  | .sr r off E len, _, h => by
    simp only [renC, CR] at h ⊢
    obtain ⟨a, cap, h1, h2, h3⟩ := h
    exact ⟨a, cap, h1, h2, fun p hq => h3 p (hp r p hq)⟩
  | .pr r off, _, h => by
    simp only [renC, CR] at h ⊢
    obtain ⟨a, h1, h3⟩ := h
    exact ⟨a, h1, fun p hq => h3 p (hp r p hq)⟩
  | .ag cs, _, h => by
    simp only [renC, CR] at h ⊢
    obtain ⟨vs, h1, h2⟩ := h
    exact ⟨vs, h1, CRL_ren hp cs h2⟩
  | .tp cs, _, h => by
    simp only [renC, CR] at h ⊢
    obtain ⟨vs, h1, h2⟩ := h
    exact ⟨vs, h1, CRL_ren hp cs h2⟩
  | .fn f cs, _, h => by
    simp only [renC, CR] at h ⊢
    obtain ⟨vs, h1, h2⟩ := h
    exact ⟨vs, h1, CRL_ren hp cs h2⟩
  | .dead, _, _ => by simp only [CR]
theorem CRL_ren (hp : ∀ r p, pl' r = some p → pl (π r) = some p) : ∀ (cs : List C) {vs : List Value}, CRL S w pl (renL π cs) vs → CRL S w pl' cs vs
  | [], _, h => by simpa only [renL, CRL] using h
  | c :: cs, _, h => by
    simp only [renL, CRL] at h ⊢
    obtain ⟨x, xs, h1, h2, h3⟩ := h
    exact ⟨x, xs, h1, CR_ren hp c h2, CRL_ren hp cs h3⟩
end
theorem CellR_ren (hp : ∀ r p, pl' r = some p → pl (π r) = some p) {c : C} {x : Value} {G : FS} (h : CellR S w pl (renC π c) x G) : CellR S w pl' c x G := by
  cases c with
  | own t => exact h
  | v t => exact CR_ren hp (.v t) h
  | sr r off E len => exact CR_ren (S := S) (w := w) hp (.sr r off E len) h
  | pr r off => exact CR_ren (S := S) (w := w) hp (.pr r off) h
  | ag cs => exact CR_ren hp (.ag cs) h
  | tp cs => exact CR_ren hp (.tp cs) h
  | fn f cs => exact CR_ren hp (.fn f cs) h
  | dead => simp only [CellR, CR]
theorem RowR_ren (hp : ∀ r p, pl' r = some p → pl (π r) = some p) : ∀ (cs : List C) {b o : Nat} {G : FS}, RowR S w pl (renL π cs) b o G → RowR S w pl' cs b o G
  | [], _, _, _, _ => by simp only [RowR]
  | c :: cs, _, _, _, h => by
    simp only [renL, RowR] at h ⊢
    obtain ⟨x, G1, G2, h1, h2, h3, h4⟩ := h
    exact ⟨x, G1, G2, h1, CellR_ren hp h2, RowR_ren hp cs h3, h4⟩
theorem renL_length : ∀ (cs : List C), (renL π cs).length = cs.length
  | [] => rfl
  | c :: cs => by simp only [renL, List.length_cons, renL_length cs]
theorem renL_own : ∀ (ts : List V), renL π (ts.map C.own) = ts.map C.own
  | [] => rfl
  | t :: ts => by simp only [List.map_cons, renL, renC, renL_own ts]
mutual
theorem okB_S : ∀ (c : C), okB u c = true → C.ok (fun r => memN r u) c
  | .v _, _ => by simp only [C.ok]
  | .own _, _ => by simp only [C.ok]
  | .dead, _ => by simp only [C.ok]
  | .sr r _ _ _, h => by simpa only [C.ok, okB] using h
  | .pr r _, h => by simpa only [C.ok, okB] using h
  | .ag cs, h => by simp only [okB] at h; simp only [C.ok]; exact okBL_S cs h
  | .tp cs, h => by simp only [okB] at h; simp only [C.ok]; exact okBL_S cs h
  | .fn f cs, h => by simp only [okB] at h; simp only [C.ok]; exact okBL_S cs h
theorem okBL_S : ∀ (cs : List C), okBL u cs = true → C.okL (fun r => memN r u) cs
  | [], _ => by simp only [C.okL]
  | c :: cs, h => by
    simp only [okBL] at h
    split at h
    · rename_i h1
      simp only [C.okL]
      exact ⟨okB_S c h1, okBL_S cs h⟩
    · cases h
end
/-- Other numbers, less told. -/
theorem Le.ren (hN : st'.N = st.N) (hargs : st.args = renL π st'.args) (henv : ∀ k c, st'.env k = some c → st.env k = some (renC π c)) (hrows : ∀ r row, st'.rows r = some row → st.rows (π r) = some ⟨renL π row.cells⟩)
    (hinj : ∀ r r' row row', r ≠ r' → st'.rows r = some row → st'.rows r' = some row' → π r ≠ π r') (hok : ∀ k c, st'.env k = some c → C.ok st'.used c) (hoka : C.okL st'.used st'.args) (hokr : ∀ r row, st'.rows r = some row → st'.used r = true ∧ C.okL st'.used row.cells) : Le st st' := fun X a w h => by
  obtain ⟨ρ, Fp, hm, he⟩ := h.mem
  have hp : ∀ r p, plOf st'.rows (fun r => ρ (π r)) r = some p → plOf st.rows ρ (π r) = some p := fun r p hp => by
    unfold plOf at hp ⊢
    cases hr : st'.rows r with
    | none => rw [hr] at hp; cases hp
    | some row =>
      rw [hr] at hp
      rw [hrows r row hr]
      exact hp
  refine ⟨⟨fun r => ρ (π r), fun r => Fp (π r), ⟨fun r row hr => ?_, fun r r' row row' hne hr hr' => hm.sep _ _ _ _ (hinj r r' row row' hne hr hr') (hrows r row hr) (hrows r' row' hr'), fun r row hr => hm.kdis _ _ (hrows r row hr), fun r row hr => hm.low _ _ (hrows r row hr), hokr⟩, ?_, ?_, hoka⟩, h.nodef, h.size.trans hN.symm, h.below, h.keep, h.hsub, h.hk, h.hB⟩
  · obtain ⟨G, k1, k2, k3⟩ := hm.row _ _ (hrows r row hr)
    exact ⟨G, RowR_ren hp _ k1, by rw [← renL_length (π := π)]; exact k2, k3⟩
  · intro k c hk
    obtain ⟨x, e1, e2, e3⟩ := he.1 k _ (henv k c hk)
    exact ⟨x, e1, CR_ren hp c e2, hok k c hk⟩
  · have := he.2.1
    rw [hargs] at this
    exact CRL_ren hp _ this
end
/-- The state that is told: closed rows, and rows cell by cell. -/
structure TL where
  N : Nat
  args : List C
  env : List (Nat × C)
  rv : List (Nat × List V)
  rc : List (Nat × List C)
def TL.sl (t : TL) : SL := { N := t.N, args := t.args, env := t.env, rows := t.rc ++ t.rv.map fun p => (p.1, p.2.map C.own), used := t.rc.map (·.1) ++ t.rv.map (·.1) }
/-- When are two the same? -/
def eqVal : Value → Value → Option (List Prop)
  | .int k m, .int k' n => match decide (k = k') with
    | true => some [m = n]
    | false => none
  | .bool m, .bool n => some [m = n]
  | x, y => some [x = y]
def eqV (x y : V) : Option (List Prop) := match x, y with
  | .sc x, .sc y => eqVal x y
  | x, y => some [x = y]
mutual
def eqC (π : Nat → Nat) : C → C → Option (List Prop)
  | .v t, d => match d with
    | .v t' => eqV t t'
    | _ => none
  | .own t, d => match d with
    | .own t' => eqV t t'
    | _ => none
  | .sr r off E len, d => match d with
    | .sr r' off' E' len' => match Nat.beq r (π r'), Nat.beq E E' with
      | true, true => some [off = off', len = len']
      | _, _ => none
    | _ => none
  | .pr r off, d => match d with
    | .pr r' off' => match Nat.beq r (π r') with
      | true => some [off = off']
      | _ => none
    | _ => none
  | .ag cs, d => match d with
    | .ag ds => eqCL π cs ds
    | _ => none
  | .tp cs, d => match d with
    | .tp ds => eqCL π cs ds
    | _ => none
  | .fn f cs, d => match d with
    | .fn g ds => match Nat.beq f g with
      | true => eqCL π cs ds
      | false => none
    | _ => none
  | .dead, d => match d with
    | .dead => some []
    | _ => none
def eqCL (π : Nat → Nat) : List C → List C → Option (List Prop)
  | [], ds => match ds with
    | [] => some []
    | _ => none
  | c :: cs, ds => match ds with
    | d :: ds => match eqC π c d, eqCL π cs ds with
      | some p, some q => some (p ++ q)
      | _, _ => none
    | _ => none
end
section
variable {P : Program} {X : Ctx} {o : Oper} {lk st st' : St} {a : Act} {w w' : World} {s s' s1 : SL} {S : FS} {pl pl' : Nat → Option Pl} {π : Nat → Nat} {u : List Nat}
theorem eqVal_S {x y : Value} {ps : List Prop} (h : eqVal x y = some ps) (hp : allT ps) : x = y := by
  unfold eqVal at h
  split at h
  · split at h
    · rename_i hk
      simp only [Option.some.injEq] at h
      subst h
      simp only [allT, and_true] at hp
      rw [of_decide_eq_true hk, hp]
    · cases h
  · simp only [Option.some.injEq] at h
    subst h
    simp only [allT, and_true] at hp
    rw [hp]
  · simp only [Option.some.injEq] at h
    subst h
    simp only [allT, and_true] at hp
    exact hp
theorem eqV_S {x y : V} {ps : List Prop} (h : eqV x y = some ps) (hp : allT ps) : x = y := by
  unfold eqV at h
  split at h
  · rw [eqVal_S h hp]
  · simp only [Option.some.injEq] at h
    subst h
    simp only [allT, and_true] at hp
    exact hp
mutual
theorem eqC_S : ∀ (c d : C) {ps : List Prop}, eqC π c d = some ps → allT ps → c = renC π d
  | .v t, d, ps, h, hp => by
    simp only [eqC] at h
    split at h
    · simp only [renC, eqV_S h hp]
    · cases h
  | .own t, d, ps, h, hp => by
    simp only [eqC] at h
    split at h
    · simp only [renC, eqV_S h hp]
    · cases h
  | .sr r off E len, d, ps, h, hp => by
    simp only [eqC] at h
    split at h
    · split at h
      · rename_i h1 h2
        simp only [Option.some.injEq] at h
        subst h
        simp only [allT, and_true] at hp
        simp only [renC, Nat.eq_of_beq_eq_true h1, Nat.eq_of_beq_eq_true h2, hp.1, hp.2]
      · cases h
    · cases h
  | .pr r off, d, ps, h, hp => by
    simp only [eqC] at h
    split at h
    · split at h
      · rename_i h1
        simp only [Option.some.injEq] at h
        subst h
        simp only [allT, and_true] at hp
        simp only [renC, Nat.eq_of_beq_eq_true h1, hp]
      · cases h
    · cases h
  | .ag cs, d, ps, h, hp => by
    simp only [eqC] at h
    split at h
    · simp only [renC, ← eqCL_S cs _ h hp]
    · cases h
  | .tp cs, d, ps, h, hp => by
    simp only [eqC] at h
    split at h
    · simp only [renC, ← eqCL_S cs _ h hp]
    · cases h
  | .fn f cs, d, ps, h, hp => by
    simp only [eqC] at h
    split at h
    · split at h
      · rename_i h1
        simp only [renC, ← eqCL_S cs _ h hp, Nat.eq_of_beq_eq_true h1]
      · cases h
    · cases h
  | .dead, d, ps, h, hp => by
    simp only [eqC] at h
    split at h
    · rfl
    · cases h
theorem eqCL_S : ∀ (cs ds : List C) {ps : List Prop}, eqCL π cs ds = some ps → allT ps → cs = renL π ds
  | [], ds, ps, h, hp => by
    simp only [eqCL] at h
    split at h
    · rfl
    · cases h
  | c :: cs, ds, ps, h, hp => by
    simp only [eqCL] at h
    split at h
    · split at h
      · rename_i p q h1 h2
        simp only [Option.some.injEq] at h
        subst h
        rw [allT_append] at hp
        simp only [renL, ← eqC_S c _ h1 hp.1, ← eqCL_S cs _ h2 hp.2]
      · cases h
    · cases h
end
end
end Go.Eng
set_option linter.unusedVariables false
namespace Go.Eng
open Go.RowKit (Below)
def evEnv (π : Nat → Nat) (env : List (Nat × C)) : List (Nat × C) → Option (List Prop)
  | [] => some []
  | (k, c) :: l => match look env k with
    | some d => match eqC π d c, evEnv π env l with
      | some p, some q => some (p ++ q)
      | _, _ => none
    | none => none
def evRV (π : Nat → Nat) (rows : List (Nat × List C)) : List (Nat × List V) → Option (List Prop)
  | [] => some []
  | (r, ts) :: l => match look rows (π r), evRV π rows l with
    | some cs, some q => some ((cs = ts.map C.own) :: q)
    | _, _ => none
def evRC (π : Nat → Nat) (rows : List (Nat × List C)) : List (Nat × List C) → Option (List Prop)
  | [] => some []
  | (r, ds) :: l => match look rows (π r) with
    | some cs => match eqCL π cs ds, evRC π rows l with
      | some p, some q => some (p ++ q)
      | _, _ => none
    | none => none
def nodupN : List Nat → Bool
  | [] => true
  | r :: l => match memN r l with
    | true => false
    | false => nodupN l
def okEnv (u : List Nat) : List (Nat × C) → Bool
  | [] => true
  | (_, c) :: l => match okB u c with
    | true => okEnv u l
    | false => false
def okRC (u : List Nat) : List (Nat × List C) → Bool
  | [] => true
  | (_, cs) :: l => match okBL u cs with
    | true => okRC u l
    | false => false
def keysOf (t : TL) : List Nat := t.rc.map (·.1) ++ t.rv.map (·.1)
def okT (t : TL) (π : Nat → Nat) : Bool := match okEnv (keysOf t) t.env, okBL (keysOf t) t.args, okRC (keysOf t) t.rc, nodupN ((keysOf t).map π) with
  | true, true, true, true => true
  | _, _, _, _ => false
/-- Is t told by s, with the rows numbered otherwise? -/
def evM (s : SL) (t : TL) (l : List (Nat × Nat)) : Option (List Prop) := match Nat.beq t.N s.N, okT t (piOf l), eqCL (piOf l) s.args t.args, evEnv (piOf l) s.env t.env with
  | true, true, some p1, some p2 => match evRV (piOf l) s.rows t.rv, evRC (piOf l) s.rows t.rc with
    | some p3, some p4 => some (p1 ++ (p2 ++ (p3 ++ p4)))
    | _, _ => none
  | _, _, _, _ => none
section
variable {P : Program} {X : Ctx} {o : Oper} {lk st st' : St} {a : Act} {w w' : World} {s s' s1 : SL} {S : FS} {pl pl' : Nat → Option Pl} {π : Nat → Nat} {u : List Nat} {t : TL}
theorem look_mem {α : Type} {r : Nat} {v : α} : ∀ {l : List (Nat × α)}, look l r = some v → (r, v) ∈ l
  | [], h => by cases h
  | (k, x) :: l, h => by
    simp only [look] at h
    split at h
    · rename_i hb
      simp only [Option.some.injEq] at h
      subst h
      rw [Nat.eq_of_beq_eq_true hb]
      exact List.mem_cons_self
    · exact List.mem_cons_of_mem _ (look_mem h)
theorem memN_iff {r : Nat} : ∀ {l : List Nat}, memN r l = true ↔ r ∈ l
  | [] => by simp [memN]
  | s :: l => by
    simp only [memN, List.mem_cons]
    split
    · rename_i h
      simp [(Nat.eq_of_beq_eq_true h).symm]
    · rename_i h
      rw [memN_iff]
      have := beq_false h
      constructor
      · exact .inr
      · rintro (h1 | h1)
        · exact absurd h1.symm this
        · exact h1
theorem evEnv_S {env : List (Nat × C)} : ∀ {l : List (Nat × C)} {ps : List Prop}, evEnv π env l = some ps → allT ps → ∀ k c, (k, c) ∈ l → look env k = some (renC π c)
  | [], ps, _, _, k, c, hm => by simp at hm
  | (k', c') :: l, ps, h, hp, k, c, hm => by
    simp only [evEnv] at h
    split at h
    · rename_i d hd
      split at h
      · rename_i p q h1 h2
        simp only [Option.some.injEq] at h
        subst h
        rw [allT_append] at hp
        rcases List.mem_cons.1 hm with e | e
        · simp only [Prod.mk.injEq] at e
          obtain ⟨rfl, rfl⟩ := e
          rw [hd, eqC_S _ _ h1 hp.1]
        · exact evEnv_S h2 hp.2 k c e
      · cases h
    · cases h
theorem evRV_S {rows : List (Nat × List C)} : ∀ {l : List (Nat × List V)} {ps : List Prop}, evRV π rows l = some ps → allT ps → ∀ r ts, (r, ts) ∈ l → look rows (π r) = some (ts.map C.own)
  | [], ps, _, _, k, c, hm => by simp at hm
  | (k', c') :: l, ps, h, hp, k, c, hm => by
    simp only [evRV] at h
    split at h
    · rename_i cs q hd h2
      simp only [Option.some.injEq] at h
      subst h
      simp only [allT] at hp
      rcases List.mem_cons.1 hm with e | e
      · simp only [Prod.mk.injEq] at e
        obtain ⟨rfl, rfl⟩ := e
        rw [hd, hp.1]
      · exact evRV_S h2 hp.2 k c e
    · cases h
theorem evRC_S {rows : List (Nat × List C)} : ∀ {l : List (Nat × List C)} {ps : List Prop}, evRC π rows l = some ps → allT ps → ∀ r cs, (r, cs) ∈ l → look rows (π r) = some (renL π cs)
  | [], ps, _, _, k, c, hm => by simp at hm
  | (k', c') :: l, ps, h, hp, k, c, hm => by
    simp only [evRC] at h
    split at h
    · rename_i cs hd
      split at h
      · rename_i p q h1 h2
        simp only [Option.some.injEq] at h
        subst h
        rw [allT_append] at hp
        rcases List.mem_cons.1 hm with e | e
        · simp only [Prod.mk.injEq] at e
          obtain ⟨rfl, rfl⟩ := e
          rw [hd, eqCL_S _ _ h1 hp.1]
        · exact evRC_S h2 hp.2 k c e
      · cases h
    · cases h
theorem nodupN_S : ∀ {ks : List Nat}, nodupN (ks.map π) = true → ∀ r r', r ∈ ks → r' ∈ ks → r ≠ r' → π r ≠ π r'
  | [], _, r, r', h, _, _ => by simp at h
  | k :: ks, h, r, r', h1, h2, hne => by
    simp only [List.map_cons, nodupN] at h
    split at h
    · cases h
    · rename_i hm
      have hm' : π k ∉ ks.map π := fun e => by rw [memN_iff.2 e] at hm; cases hm
      rcases List.mem_cons.1 h1 with rfl | e1 <;> rcases List.mem_cons.1 h2 with rfl | e2
      · exact absurd rfl hne
      · exact fun e => hm' (e ▸ List.mem_map_of_mem e2)
      · exact fun e => hm' (e ▸ List.mem_map_of_mem e1)
      · exact nodupN_S h r r' e1 e2 hne
theorem okEnv_S : ∀ {l : List (Nat × C)}, okEnv u l = true → ∀ k c, (k, c) ∈ l → C.ok (fun r => memN r u) c
  | [], _, k, c, h => by simp at h
  | (k', c') :: l, h, k, c, hm => by
    simp only [okEnv] at h
    split at h
    · rename_i h1
      rcases List.mem_cons.1 hm with e | e
      · simp only [Prod.mk.injEq] at e
        obtain ⟨rfl, rfl⟩ := e
        exact okB_S _ h1
      · exact okEnv_S h k c e
    · cases h
theorem okRC_S : ∀ {l : List (Nat × List C)}, okRC u l = true → ∀ k c, (k, c) ∈ l → C.okL (fun r => memN r u) c
  | [], _, k, c, h => by simp at h
  | (k', c') :: l, h, k, c, hm => by
    simp only [okRC] at h
    split at h
    · rename_i h1
      rcases List.mem_cons.1 hm with e | e
      · simp only [Prod.mk.injEq] at e
        obtain ⟨rfl, rfl⟩ := e
        exact okBL_S _ h1
      · exact okRC_S h k c e
    · cases h
theorem evM_S {l : List (Nat × Nat)} {ps : List Prop} (h : evM s t l = some ps) (hp : allT ps) : Le s.st t.sl.st := by
  unfold evM at h
  split at h
  · rename_i p1 p2 h1 h2 h3 h4
    split at h
    · rename_i p3 p4 h5 h6
      simp only [Option.some.injEq] at h
      subst h
      simp only [allT_append] at hp
      obtain ⟨q1, q2, q3, q4⟩ := hp
      unfold okT at h2
      split at h2
      · rename_i k1 k2 k3 k4
        have hrow : ∀ r row, t.sl.st.rows r = some row → (r ∈ keysOf t) ∧ s.st.rows (piOf l r) = some ⟨renL (piOf l) row.cells⟩ ∧ C.okL (fun r => memN r (keysOf t)) row.cells := fun r row hr => by
          simp only [SL.st, TL.sl, rlook] at hr ⊢
          split at hr
          · rename_i cs hl
            simp only [Option.some.injEq] at hr
            subst hr
            rcases List.mem_append.1 (look_mem hl) with e | e
            · refine ⟨List.mem_append_left _ (List.mem_map.2 ⟨_, e, rfl⟩), ?_, okRC_S k3 _ _ e⟩
              rw [evRC_S h6 q4 _ _ e]
            · obtain ⟨⟨r', ts⟩, e1, e2⟩ := List.mem_map.1 e
              simp only [Prod.mk.injEq] at e2
              obtain ⟨rfl, rfl⟩ := e2
              refine ⟨List.mem_append_right _ (List.mem_map.2 ⟨_, e1, rfl⟩), ?_, okL_own _⟩
              rw [evRV_S h5 q3 _ _ e1, renL_own]
          · cases hr
        refine Le.ren (π := piOf l) (Nat.eq_of_beq_eq_true h1) (eqCL_S _ _ h3 q1) (fun k c hk => evEnv_S h4 q2 k c (look_mem hk)) (fun r row hr => (hrow r row hr).2.1) (fun r r' row row' hne hr hr' => nodupN_S k4 r r' (hrow r row hr).1 (hrow r' row' hr').1 hne) (fun k c hk => okEnv_S k1 k c (look_mem hk)) (okBL_S _ k2) (fun r row hr => ⟨memN_iff.2 (hrow r row hr).1, (hrow r row hr).2.2⟩)
      · cases h2
    · cases h
  · cases h
end
/-- Nil slices told as empty ones. -/
def NilRel : List C → List C → Prop
  | [], [] => True
  | c :: cs, d :: ds => (c = d ∨ (c = .own (.sc (.slice none 0 0)) ∧ ∃ E, d = .own (.sl E 0 []))) ∧ NilRel cs ds
  | _, _ => False
def evG (g : G) (s : SL) : Option (List Prop × SL) := match g with
  | .fold r i fuel O => match look s.rows r with
    | some cells => match cells[i]? with
      | some c => match cloS O (rlook (delK r s.rows)) fuel [] c with
        | some (ps, t, g) => some (ps, { s with rows := setKs (delKs (delK r s.rows) g) [(r, cells.set i (.own t))] })
        | none => none
      | none => none
    | none => none
  | .foldD r i fuel O c cs => match look s.rows r with
    | some cells => match cloS O (rlook (delK r s.rows)) fuel [] c with
        | some (ps, t, g) => some ((cells[i]? = some c) :: (cells.set i (.own t) = cs) :: ps, { s with rows := setKs (delKs (delK r s.rows) g) [(r, cs)] })
        | none => none
    | none => none
  | .opn r i id => match look s.rows r with
    | some cells => match cells[i]? with
      | some (.own t) => match freshAll s.used (matNew id (mat t id).2) with
        | true => some ([], { s with rows := (r, cells.set i (mat t id).1) :: delK r (setKs s.rows (matSet id (mat t id).2)), used := addKs s.used (matNew id (mat t id).2) })
        | false => none
      | _ => none
    | none => none
  | .opnD r i id t cs => match look s.rows r with
    | some cells => match freshAll s.used (matNew id (mat t id).2) with
        | true => some ([cells[i]? = some (.own t), cells.set i (mat t id).1 = cs], { s with rows := (r, cs) :: delK r (setKs s.rows (matSet id (mat t id).2)), used := addKs s.used (matNew id (mat t id).2) })
        | false => none
    | none => none
  | .nilE k id E => match look s.env k, memN id s.used with
    | some (.v (.sc (.slice none 0 0))), false => some ([], { s with env := (k, .sr id 0 E 0) :: s.env, rows := (id, []) :: delK id s.rows, used := id :: s.used })
    | _, _ => none
  | .nilC r i E => match look s.rows r with
    | some cells => match cells[i]? with
      | some (.own (.sc (.slice none 0 0))) => some ([], { s with rows := (r, cells.set i (.own (.sl E 0 []))) :: delK r s.rows })
      | _ => none
    | none => none
  | .nilA r cs => match look s.rows r with
    | some cells => some ([NilRel cells cs], { s with rows := (r, cs) :: delK r s.rows })
    | none => none
  | .row r cs => match look s.rows r with
    | some cells => some ([cells = cs], { s with rows := (r, cs) :: delK r s.rows })
    | none => none
  | .env k c => match look s.env k with
    | some d => some ([d = c], { s with env := (k, c) :: s.env })
    | none => none
section
variable {P : Program} {X : Ctx} {o : Oper} {lk st st' : St} {a : Act} {w w' : World} {s s' s1 : SL} {S : FS} {pl pl' : Nat → Option Pl} {π : Nat → Nat} {u : List Nat} {t : TL}
theorem rlook_some {l : List (Nat × List C)} {r : Nat} {cs : List C} (h : look l r = some cs) : rlook l r = some ⟨cs⟩ := by simp only [rlook, h]
theorem fold_S {r i fuel : Nat} {O : Orc} {cells : List C} {c : C} {ps : List Prop} {t : V} {g : List Nat} (h1 : look s.rows r = some cells) (h2 : cells[i]? = some c) (h3 : cloS O (rlook (delK r s.rows)) fuel [] c = some (ps, t, g)) (hp : allT ps) : Le s.st (SL.st { s with rows := setKs (delKs (delK r s.rows) g) [(r, cells.set i (.own t))] }) := by
  have k := cloS_S (full := rlook (delK r s.rows)) (fun _ _ => id) fuel _ _ _ _ _ h3 hp
  rw [dels_nil, rlook_delK] at k
  have := Le.fold (st := s.st) (rlook_some h1) h2 k
  simp only [SL.st, rlook_setKs, rlook_delKs, rlook_delK, delRows_dels]
  exact this
theorem opn_S {r i id : Nat} {cells : List C} {t : V} (h1 : look s.rows r = some cells) (h2 : cells[i]? = some (.own t)) (h3 : freshAll s.used (matNew id (mat t id).2) = true) : Le s.st (SL.st { s with rows := (r, cells.set i (mat t id).1) :: delK r (setKs s.rows (matSet id (mat t id).2)), used := addKs s.used (matNew id (mat t id).2) }) := by
  have := Le.opened (st := s.st) (rlook_some h1) h2 (fun j hj1 hj2 => freshAll_S h3 j (matNew_mem _ _ _ hj1 hj2))
  simp only [SL.st, rlook_cons, rlook_delK, rlook_setKs, memN_addKs, upd_upd]
  rw [← addRows_set, ← addUsed_new]
  exact this
theorem Le.nilEnv {k id E : Nat} (hk : st.env k = some (.v (.sc (.slice none 0 0)))) (hid : st.used id = false) : Le st { st with env := upd st.env k (some (.sr id 0 E 0)), rows := upd st.rows id (some ⟨[]⟩), used := upd st.used id true } := fun X a w h => by
  have h' := h.retell (rows' := upd st.rows id (some ⟨[]⟩)) (used' := upd st.used id true) fun ρ Fp hm => ⟨_, _, hm.add (p := ⟨0, 0, 0⟩) (F := FS.none) (G := FS.none) hid (by simp only [RowR]) (by simp only [C.okL]) (by simp) (fun b o ⟨_, h2, h3⟩ => by simp at h3) FS.none_sub FS.dis_none (fun j hj => by simp at hj) (fun _ _ _ => FS.none_dis) FS.none_dis (fun _ _ hf => hf.elim), plOf_fresh hid (fun _ _ => _root_.id), used_upd⟩
  obtain ⟨ρ, Fp, k1, k2⟩ := h'.mem
  refine ⟨⟨ρ, Fp, k1, ?_, k2.2⟩, h'.nodef, h'.size, h'.below, h'.keep, h'.hsub, h'.hk, h'.hB⟩
  intro j c hj
  by_cases e : j = k
  · subst e
    simp only [upd_self, Option.some.injEq] at hj
    subst hj
    obtain ⟨x, e1, e2, e3⟩ := k2.1 j _ hk
    refine ⟨x, e1, ?_, by simp only [C.ok, upd_self]⟩
    simp only [CR, VI] at e2 ⊢
    exact ⟨none, 0, e2, Nat.le_refl _, fun _ _ => .inl rfl⟩
  · simp only [upd_ne e] at hj
    exact k2.1 j c hj
theorem Le.nilCell {r i E : Nat} {row : Row} (hr : st.rows r = some row) (hi : row.cells[i]? = some (.own (.sc (.slice none 0 0)))) : Le st { st with rows := upd st.rows r (some ⟨row.cells.set i (.own (.sl E 0 []))⟩), used := st.used } := fun X a w h => by
  refine h.retell fun ρ Fp hm => ⟨ρ, Fp, hm.recell hr hi (fun x hx => ?_) (by simp only [C.ok]), ?_, fun _ => id⟩
  · obtain ⟨G, k1, _⟩ := hm.row r row hr
    obtain ⟨y, G1, e1, e2, _⟩ := RowR_get _ k1 hi
    rw [hx] at e1
    simp only [Option.some.injEq] at e1
    subst e1
    simp only [CellR, VO] at e2 ⊢
    exact ⟨none, 0, e2, Nat.le_refl _, .inl ⟨rfl, trivial⟩⟩
  · intro j p _ hp
    rwa [plOf_upd_some hr] at hp
theorem NilRel_R {S : FS} {w : World} {pl : Nat → Option Pl} : ∀ {cs ds : List C} {b o : Nat} {G : FS}, NilRel cs ds → RowR S w pl cs b o G → RowR S w pl ds b o G
  | [], [], _, _, _, _, h => h
  | [], _ :: _, _, _, _, hn, _ => by simp [NilRel] at hn
  | _ :: _, [], _, _, _, hn, _ => by simp [NilRel] at hn
  | c :: cs, d :: ds, b, o, G, hn, h => by
    simp only [NilRel] at hn
    simp only [RowR] at h ⊢
    obtain ⟨x, G1, G2, h1, h2, h3, h4, h5, h6⟩ := h
    refine ⟨x, G1, G2, h1, ?_, NilRel_R hn.2 h3, h4, h5, h6⟩
    rcases hn.1 with rfl | ⟨rfl, E, rfl⟩
    · exact h2
    · simp only [CellR, VO] at h2 ⊢
      exact ⟨none, 0, h2, Nat.le_refl _, .inl ⟨rfl, trivial⟩⟩
theorem NilRel_len : ∀ {cs ds : List C}, NilRel cs ds → cs.length = ds.length
  | [], [], _ => rfl
  | [], _ :: _, hn => by simp [NilRel] at hn
  | _ :: _, [], hn => by simp [NilRel] at hn
  | c :: cs, d :: ds, hn => by simp only [NilRel] at hn; simp [NilRel_len hn.2]
theorem NilRel_ok {u : Nat → Bool} : ∀ {cs ds : List C}, NilRel cs ds → C.okL u cs → C.okL u ds
  | [], [], _, h => h
  | [], _ :: _, hn, _ => by simp [NilRel] at hn
  | _ :: _, [], hn, _ => by simp [NilRel] at hn
  | c :: cs, d :: ds, hn, h => by
    simp only [NilRel] at hn
    simp only [C.okL] at h ⊢
    refine ⟨?_, NilRel_ok hn.2 h.2⟩
    rcases hn.1 with rfl | ⟨rfl, E, rfl⟩
    · exact h.1
    · simp only [C.ok]
theorem Le.nilAll {r : Nat} {row : Row} {ds : List C} (hr : st.rows r = some row) (hn : NilRel row.cells ds) : Le st { st with rows := upd st.rows r (some ⟨ds⟩), used := st.used } := fun X a w h => by
  refine h.retell (rows' := upd st.rows r (some ⟨ds⟩)) (used' := st.used) fun ρ Fp hm => ⟨ρ, Fp, ?_, fun j p _ hp => ?_, fun _ => id⟩
  · have plsame : plOf (upd st.rows r (some ⟨ds⟩)) ρ = plOf st.rows ρ := by
      funext j
      unfold plOf
      by_cases e : j = r
      · subst e; rw [upd_self, hr]
      · rw [upd_ne e]
    refine ⟨fun j row' hj => ?_, fun i j row' row'' hij hi hj => ?_, fun i row' hi => ?_, fun i row' hi => ?_, fun i row' hi => ?_⟩
    · by_cases e : j = r
      · subst e
        rw [upd_self, Option.some.injEq] at hj
        subst hj
        obtain ⟨G, g1, g2, g3, g4, g5, g6⟩ := hm.row j row hr
        exact ⟨G, by rw [plsame]; exact NilRel_R hn g1, by simp only [← NilRel_len hn]; exact g2, g3, g4, g5, g6⟩
      · rw [upd_ne e] at hj
        rw [plsame]
        exact hm.row j row' hj
    · have ex : ∀ {i : Nat} {row' : Row}, upd st.rows r (some ⟨ds⟩) i = some row' → ∃ row0, st.rows i = some row0 := fun {i row'} hi => by
        by_cases e : i = r
        · subst e; exact ⟨row, hr⟩
        · rw [upd_ne e] at hi; exact ⟨_, hi⟩
      obtain ⟨_, a1⟩ := ex hi
      obtain ⟨_, a2⟩ := ex hj
      exact hm.sep i j _ _ hij a1 a2
    · by_cases e : i = r
      · subst e; exact hm.kdis i row hr
      · rw [upd_ne e] at hi; exact hm.kdis i row' hi
    · by_cases e : i = r
      · subst e; exact hm.low i row hr
      · rw [upd_ne e] at hi; exact hm.low i row' hi
    · by_cases e : i = r
      · subst e
        rw [upd_self, Option.some.injEq] at hi
        subst hi
        exact ⟨(hm.okc i row hr).1, NilRel_ok hn (hm.okc i row hr).2⟩
      · rw [upd_ne e] at hi; exact hm.okc i row' hi
  · unfold plOf at hp ⊢
    by_cases e : j = r
    · subst e; rw [upd_self] at hp; rw [hr]; exact hp
    · rw [upd_ne e] at hp; exact hp
theorem upd_same {α : Type} {f : Nat → Option α} {k : Nat} {v : α} (h : f k = some v) : upd f k (some v) = f := upd_id h
theorem evG_S {g : G} {ps : List Prop} (h : evG g s = some (ps, s')) (hp : allT ps) : Le s.st s'.st := by
  unfold evG at h
  split at h
  · split at h
    · rename_i cells h1
      split at h
      · rename_i c h2
        split at h
        · rename_i ps' t g h3
          simp only [Option.some.injEq, Prod.mk.injEq] at h
          obtain ⟨rfl, rfl⟩ := h
          exact fold_S h1 h2 h3 hp
        · cases h
      · cases h
    · cases h
  · split at h
    · rename_i cells h1
      split at h
      · rename_i ps' t g h3
        simp only [Option.some.injEq, Prod.mk.injEq] at h
        obtain ⟨rfl, rfl⟩ := h
        simp only [allT] at hp
        obtain ⟨p1, rfl, p3⟩ := hp
        exact fold_S h1 p1 h3 p3
      · cases h
    · cases h
  · split at h
    · rename_i cells h1
      split at h
      · rename_i t h2
        split at h
        · rename_i h3
          simp only [Option.some.injEq, Prod.mk.injEq] at h
          obtain ⟨rfl, rfl⟩ := h
          exact opn_S h1 h2 h3
        · cases h
      · cases h
    · cases h
  · split at h
    · rename_i cells h1
      split at h
      · rename_i h3
        simp only [Option.some.injEq, Prod.mk.injEq] at h
        obtain ⟨rfl, rfl⟩ := h
        simp only [allT, and_true] at hp
        obtain ⟨p1, rfl⟩ := hp
        exact opn_S h1 p1 h3
      · cases h
    · cases h
  · split at h
    · rename_i h1 h2
      simp only [Option.some.injEq, Prod.mk.injEq] at h
      obtain ⟨rfl, rfl⟩ := h
      rename_i k id E _ _
      have := Le.nilEnv (st := s.st) (E := E) h1 h2
      simp only [SL.st, look_cons, rlook_cons, rlook_delK, upd_upd, memN_cons]
      exact this
    · cases h
  · split at h
    · rename_i cells h1
      split at h
      · rename_i h2
        simp only [Option.some.injEq, Prod.mk.injEq] at h
        obtain ⟨rfl, rfl⟩ := h
        simp only [SL.st, rlook_cons, rlook_delK, upd_upd]
        exact Le.nilCell (st := s.st) (rlook_some h1) h2
      · cases h
    · cases h
  · split at h
    · rename_i cells h1
      simp only [Option.some.injEq, Prod.mk.injEq] at h
      obtain ⟨rfl, rfl⟩ := h
      simp only [allT, and_true] at hp
      simp only [SL.st, rlook_cons, rlook_delK, upd_upd]
      exact Le.nilAll (st := s.st) (rlook_some h1) hp
    · cases h
  · split at h
    · rename_i cells h1
      simp only [Option.some.injEq, Prod.mk.injEq] at h
      obtain ⟨rfl, rfl⟩ := h
      simp only [allT, and_true] at hp
      subst hp
      simp only [SL.st, rlook_cons, rlook_delK, upd_upd]
      rw [upd_same (rlook_some h1)]
      exact Le.refl
    · cases h
  · split at h
    · rename_i d h1
      simp only [Option.some.injEq, Prod.mk.injEq] at h
      obtain ⟨rfl, rfl⟩ := h
      simp only [allT, and_true] at hp
      subst hp
      simp only [SL.st, look_cons]
      rw [upd_same h1]
      exact Le.refl
    · cases h
end
end Go.Eng
