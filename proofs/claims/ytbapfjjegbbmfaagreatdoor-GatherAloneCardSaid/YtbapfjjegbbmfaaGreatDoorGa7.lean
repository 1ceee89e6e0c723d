/-
  The loop over the iterator: what its rounds do says what it does.
-/
import Derived.Test.YtbapfjjegbbmfaaGreatDoorGa6
set_option linter.unusedVariables false
set_option linter.unusedSimpArgs false
namespace Go.Proofs.YtbapfjjegbbmfaaGreatDoor.PGatherAlone
open Go.RowKit Go.Proofs.YtbapfjjegbbmfaaGreatDoorW.PrintWords Go.Proofs.YtbapfjjegbbmfaaGreatDoorW.PrintLast Go.Proofs.YtbapfjjegbbmfaaGreatDoorW.PrintMore

/-! ### A region that draws its order, in a round -/
section
variable {P : Program} {ops : Array Oper} {Q : Exit → Act → World → Prop} {md : Region.Mode} {l n : Nat}
theorem wpOp_in {i : Nat} {K K' : Act → World → Prop} {a : Act} {w : World} (hd : ∀ (j : Nat) (o : Oper), ops[j]? = some o → ∀ c, o.op ≠ .defer c) (hQ : ¬ LetsOut Q) (hK : ∀ a w, K a w → K' a w) (h : wpOp P ops Q i K a w) : wpOpIn (Fence.wide.inRound l) n P ops Q i K' a w := by
  unfold wpOp at h
  unfold wpOpIn
  cases ho : ops[i]? with
  | none => simp only [ho] at h ⊢; exact hK _ _ h
  | some o =>
    simp only [ho] at h ⊢
    split
    · rename_i hw
      rw [if_pos hw] at h
      rcases h with h | h
      · refine ⟨fun _ _ => trivial, ?_⟩
        have hs : o.semAt (Fence.wide.inRound l).round a.eval = execOp a.eval o := Oper.semAt_some l _ o (hd i o ho)
        rw [hs]
        unfold Oper.wp at h
        generalize (execOp a.eval o).run P w = r at h ⊢
        cases r with
        | ok x w' =>
          cases x <;> simp only [Oper.upon, Oper.uponIn] at h ⊢
          all_goals first
            | exact hK _ _ h
            | exact ⟨(fun hx => by cases hx), CallsIn.inRound l (callsIn_wide.2 (Calls.mono h (fun e w'' he => by cases e <;> first | exact hK _ _ he | exact he)))⟩
            | exact ⟨(fun hx => by cases hx), fun c cs _ => let ⟨v, w', q1, q2⟩ := Rows.mono h (fun _ _ he => hK _ _ he) c cs; ⟨v, w', q1, stepsIn_wide.2 q2⟩⟩
        | halt x w' => cases x <;> simp only [Oper.upon, Oper.uponIn] at h ⊢ <;> exact h
      · exact absurd h.2 hQ
    · rename_i hw
      rw [if_neg hw] at h
      exact ⟨fun _ _ => trivial, hK _ _ h⟩
theorem wpAny_in (hd : ∀ (j : Nat) (o : Oper), ops[j]? = some o → ∀ c, o.op ≠ .defer c) (hQ : ¬ LetsOut Q) : ∀ (fuel : Nat) (listed : Array Bool) (a : Act) (w : World), wpAny P md ops Q fuel listed a w → wpAnyIn (Fence.wide.inRound l) n P md ops Q fuel listed a w
  | 0, _, _, _, h => h
  | fuel + 1, _, _, _, h => ⟨h.1, fun i hi => wpOp_in hd hQ (fun a' w' h' => wpAny_in hd hQ fuel _ a' w' h') (h.2 i hi)⟩
theorem start_in {S : World → Prop} {ds : List Nat} {id k : Nat} {a : Act} {w : World} (ls : Array Bool) (hm : P.follows .mixedOrders = true) (hn : ops.size = k) (hl : Array.replicate k false = ls) (hd : (ops.toList.all fun o => match o.op with | .defer _ => false | _ => true) = true) (hQ : ¬ LetsOut Q) (hS : S w.drew)
    (h : S w.drew → wpAnyLast P .any ops Q S ds k ls a w.drew) : (Code.region id ops true).wpIn (Fence.wide.inRound l) n P Q a w := by
  subst hn
  subst hl
  refine wpIn_region_any hm (wpAny_in ?_ hQ _ _ _ _ (wpAny_of_last _ _ _ _ (h hS)))
  intro j o ho c hc
  have := List.all_eq_true.1 hd o (by have := Array.mem_of_getElem? ho; simpa using this)
  rw [hc] at this
  cases this
end
/-- What the reader works upon. -/
structure GP where
  W0 : World
  gb : Nat
  fb : Nat
  rb : Nat
  b1 : Nat
  b33 : Nat
  nv : Value
  Ap : Option Addr
  cp : Nat
  Ag : Option Addr
  cg : Nat
  pl : List S33
  pgs : List S43
/-- The reader's cells. -/
def GP.rs (g : GP) (m : Nat) (st : Int × List S51) (W : World) : Prop :=
  GS g.W0 g.W0.heap.size g.gb g.nv (.slice g.Ap g.pl.length g.cp) g.Ag g.pgs.length g.cg st.2 W ∧ W.heap[g.fb]? = some (.cells #[.int .i64 st.1] 3 (0, 0)) ∧ W.heap[g.rb]? = some (.cells #[.bool false] 4 (0, 0)) ∧
    W.heap[g.b1]? = some (.cells #[.pointer (some ⟨g.gb, 0, none⟩)] 61 (0, 0)) ∧ W.heap[g.b33]? = some (.cells #[.pointer (some ⟨g.gb, 0, none⟩)] 61 (0, 0)) ∧ 0 ≤ st.1 ∧ st.2.length ≤ m * 401
structure GP.fits (g : GP) (S : Nat) : Prop where
  w : g.W0.heap.size ≤ g.gb
  gb : g.gb < S
  fb : g.fb < S
  rb : g.rb < S
  b1 : g.b1 < S
  b33 : g.b33 < S
  wrb : g.W0.heap.size ≤ g.rb
theorem KI.toBelow {S : Nat} {W0 W W' : World} (hk : KI S W W') (h3 : Below W0.heap.size W0 W) (hS : W0.heap.size ≤ S) : Below W0.heap.size W0 W' := by
  refine ⟨hk.1.os.trans h3.os, hk.1.tape.trans h3.tape, hk.1.output.trans h3.output, Nat.le_trans h3.size hk.1.size, fun k hlt => ?_⟩
  have e0 := h3.block k hlt
  obtain ⟨o, ho⟩ : ∃ o, W0.heap[k]? = some o := ⟨_, Array.getElem?_eq_getElem hlt⟩
  rw [ho] at e0 ⊢
  exact hk.2 k o e0 (.inl (by omega))
theorem GP.rs_ki {g : GP} {m : Nat} {st : Int × List S51} {S : Nat} {W W' : World} (hf : g.fits S) (h : g.rs m st W) (hk : KI S W W') : g.rs m st W' := by
  obtain ⟨⟨ov, h1, h2, h3⟩, h4, h5, h6, h7, h8, h9⟩ := h
  refine ⟨⟨ov, hk.2 _ _ h1 (.inl hf.gb), R51_move h2 (fun k cs hc => hk.2 k _ hc (.inr ⟨cs, rfl⟩)), ?_⟩, hk.2 _ _ h4 (.inl hf.fb), hk.2 _ _ h5 (.inl hf.rb), hk.2 _ _ h6 (.inl hf.b1), hk.2 _ _ h7 (.inl hf.b33), h8, h9⟩
  refine ⟨hk.1.os.trans h3.os, hk.1.tape.trans h3.tape, hk.1.output.trans h3.output, Nat.le_trans h3.size hk.1.size, fun k hlt => ?_⟩
  have e0 := h3.block k hlt
  obtain ⟨o, ho⟩ : ∃ o, g.W0.heap[k]? = some o := ⟨_, Array.getElem?_eq_getElem hlt⟩
  rw [ho] at e0 ⊢
  exact hk.2 k o e0 (.inl (by have := hf.w; have := hf.gb; omega))
abbrev recOf (fn : FuncId) (tmps : Array Value) (ps : Array Tmp) (assign body : Code) (D : Nat) : Loop := { state := .ready, pending := none, fn := fn, tmps := tmps, params := ps, assign := assign, body := body, defers := D }
def GP.J (g : GP) (D : Nat) (r : Loop) (m : Nat) (st : Int × List S51) (W : World) : Prop := g.rs m st W ∧ W.heap[D]? = some (.deferred (some [])) ∧ W.heap[D + 1]? = some (.loop r)
def GP.Jx (g : GP) (D : Nat) (r : Loop) (W : World) : Prop := W.heap[g.rb]? = some (.cells #[.bool false] 4 (0, 0)) ∧ W.heap[D]? = some (.deferred (some [])) ∧ W.heap[D + 1]? = some (.loop { r with state := .done, pending := some .ret }) ∧ ∃ ov out, W.heap[g.gb]? = some (gcells g.nv (.slice g.Ap g.pl.length g.cp) g.Ag g.pgs.length g.cg ov) ∧ Kd.R k51 51 W g.W0.heap.size (fun _ => True) ov out ∧ Below g.W0.heap.size g.W0 W
def GP.X (g : GP) (D : Nat) (k : Nat) : Prop := k = g.gb ∨ k = g.fb ∨ k = g.rb ∨ k = D + 1
theorem putObj_cells {W : World} {l k : Nat} {ol o : Obj} {cs : Array Value} {t : TypeId} {f : Nat × Nat} (hl : W.heap[l]? = some ol) (hn : ∀ cs t f, ol ≠ .cells cs t f) (h : W.heap[k]? = some (.cells cs t f)) : (W.putObj l o).heap[k]? = some (.cells cs t f) := by
  rw [World.putObj_heap_other (by rintro rfl; rw [hl] at h; exact hn _ _ _ (Option.some.inj h))]; exact h
theorem putObj_below {W0 W : World} {B l : Nat} (h : Below B W0 W) (hl : B ≤ l) (o : Obj) : Below B W0 (W.putObj l o) := by
  refine ⟨h.os, h.tape, h.output, by simpa [World.putObj] using h.size, fun k hk => ?_⟩
  rw [World.putObj_heap_other (by omega)]; exact h.block k hk
/-- What the loop leaves. -/
def GP.Fin (g : GP) (D : Nat) (out : List S51) (W : World) : Prop :=
  ∃ ov, W.heap[g.gb]? = some (gcells g.nv (.slice g.Ap g.pl.length g.cp) g.Ag g.pgs.length g.cg ov) ∧ Kd.R k51 51 W g.W0.heap.size (fun _ => True) ov out ∧ Below g.W0.heap.size g.W0 W ∧ W.heap[g.rb]? = some (.cells #[.bool false] 4 (0, 0)) ∧ W.heap[D]? = some (.deferred (some []))
/-- THE LOOP OVER THE ITERATOR: what one round does says what it does. -/
theorem range_read (g : GP) {gop : Operand} {assign body : Code} {t : Tmp} {a : Act} {w : World} {Q : Exit → Act → World → Prop} {nl : List S53} {An : Option Addr} {cn : Nat} (hop : a.eval gop = .func (.func 53) #[] #[.pointer (some ⟨g.b33, 0, none⟩)]) (hrs : g.rs 0 (0, []) w) (hfit : g.fits w.heap.size)
    (hn : Kd.C k53 g.W0 An nl.length nl) (hnv : g.nv = .slice An nl.length cn) (hnl : nl.length ≤ 200)
    (hround : ∀ (fn : FuncId) (m : Nat) (st : Int × List S51) (x : S53) (ends wrong : Bool) (W : World), g.J w.heap.size (recOf fn a.tmps #[t] assign body w.heap.size) m st W → m < 500 →
      RoundIn Fence.wide 0 Tryz.prog (w.heap.size + 1) fn (a.tmps.setIfInBounds t (.agg #[.int .u8 x.f0, .int .i64 x.f1, .int .i64 x.f2, .int .i64 x.f3, .bool ends, .bool wrong])) assign body W
        (YR (g.X w.heap.size) g.pgs g.pl (g.J w.heap.size (recOf fn a.tmps #[t] assign body w.heap.size)) (g.Jx w.heap.size (recOf fn a.tmps #[t] assign body w.heap.size)) m st x ends wrong W))
    (hdone : ∀ (st : Int × List S51) (W : World), iterF g.pgs g.pl nl nl.length 0 [] [] (0, []) = some st → W.heap[g.fb]? = some (.cells #[.int .i64 st.1] 3 (0, 0)) → W.heap[g.b1]? = some (.cells #[.pointer (some ⟨g.gb, 0, none⟩)] 61 (0, 0)) → g.Fin w.heap.size st.2 W →
      Q .normal { a with defers := { target := .collected w.heap.size, args := #[] } :: a.defers } W)
    (hstop : ∀ (out : List S51) (W : World), iterF g.pgs g.pl nl nl.length 0 [] [] (0, []) = none → g.Fin w.heap.size out W →
      Q .ret { a with defers := { target := .collected w.heap.size, args := #[] } :: a.defers } W) :
    (Code.rangeFunc gop #[t] assign body).wpIn Fence.wide 0 Tryz.prog Q a w := by
  refine wpIn_rangeFunc fun fn _ => ?_
  have hen := run_enterLoop_outer (P := Tryz.prog) (w := w) fn a.tmps #[t] assign body
  obtain ⟨w1, hw1⟩ : ∃ w1, (w.alloc (.deferred (some []))).alloc (.loop (recOf fn a.tmps #[t] assign body w.heap.size)) = w1 := ⟨_, rfl⟩
  rw [hw1] at hen
  have hb1 : Below w.heap.size w w1 := by rw [← hw1]; exact two_alloc _ _ _
  have hs1 : w1.heap.size = w.heap.size + 2 := by rw [← hw1]; simp
  have hD : w1.heap[w.heap.size]? = some (.deferred (some [])) := by rw [← hw1]; exact blk_alloc (blk_new w _) _
  have hL : w1.heap[w.heap.size + 1]? = some (.loop (recOf fn a.tmps #[t] assign body w.heap.size)) := by
    rw [← hw1]; have := blk_new (w.alloc (.deferred (some []))) (.loop (recOf fn a.tmps #[t] assign body w.heap.size)); simpa using this
  have hfit1 : g.fits w1.heap.size := by obtain ⟨q1, q2, q3, q4, q5, q6, q7⟩ := hfit; exact ⟨q1, by omega, by omega, by omega, by omega, by omega, q7⟩
  have hJ1 : g.J w.heap.size (recOf fn a.tmps #[t] assign body w.heap.size) 0 (0, []) w1 := ⟨g.rs_ki hfit hrs (KI.below hb1), hD, hL⟩
  have hit := iter_calls (g.X w.heap.size) (w.heap.size + 1) g.gb g.b33 g.W0 An cn nl g.pgs g.pl (g.J w.heap.size (recOf fn a.tmps #[t] assign body w.heap.size)) (g.Jx w.heap.size (recOf fn a.tmps #[t] assign body w.heap.size)) w1 ?_ ?_ ?_ ?_ hn hnl (0, []) hJ1
  · refine ⟨w.heap.size + 1, [{ target := .collected w.heap.size, args := #[] }], w1, { target := .fn (.func 53) #[.pointer (some ⟨g.b33, 0, none⟩)], args := #[Value.func (.yield (w.heap.size + 1)) #[] #[]] }, w1, 53, #[.func (.yield (w.heap.size + 1)) #[] #[], .pointer (some ⟨g.b33, 0, none⟩)], w1, hen, ?_, fun _ _ => trivial, ?_, (fun h => by cases h), callsIn_wide.2 (hit.mono ?_)⟩
    · simp only [resolve, rangeCall, hop, Deferred.ofValue, Sem.run_bind, Sem.run_pure, Result.andThen_ok]
      simp [Act.eval]
    · exact Go.Proofs.enters_of Tryz.func53 (by kernel_rfl) rfl _ w1
    · rintro e w3 ⟨v, rfl, hc⟩
      rcases hc with ⟨st, m, h1, h2⟩ | ⟨h1, h2⟩
      · refine ⟨_, _, run_endLoop h2.2.2 (by intro h; cases h), ?_⟩
        obtain ⟨⟨⟨ov, q1, q2, q3⟩, h4, h5, h6, h7, h8, h9⟩, k1, k2⟩ := h2
        exact hdone st _ h1 (putObj_cells k2 (fun _ _ _ h => by cases h) h4) (putObj_cells k2 (fun _ _ _ h => by cases h) h6) ⟨ov, putObj_cells k2 (fun _ _ _ h => by cases h) q1, R51_move q2 (fun k cs hc => putObj_cells k2 (fun _ _ _ h => by cases h) hc), putObj_below q3 (by have := hfit.gb; have := hfit.w; omega) _, putObj_cells k2 (fun _ _ _ h => by cases h) h5, by rw [World.putObj_heap_other (by omega)]; exact k1⟩
      · refine ⟨_, _, run_endLoop h2.2.2.1 (by intro h; cases h), ?_⟩
        obtain ⟨h5, k1, k2, ov, out, q1, q2, q3⟩ := h2
        exact wpIn_ret (hstop out _ h1 ⟨ov, putObj_cells k2 (fun _ _ _ h => by cases h) q1, R51_move q2 (fun k cs hc => putObj_cells k2 (fun _ _ _ h => by cases h) hc), putObj_below q3 (by have := hfit.gb; have := hfit.w; omega) _, putObj_cells k2 (fun _ _ _ h => by cases h) h5, by rw [World.putObj_heap_other (by omega)]; exact k1⟩)
  · intro m st x ends wrong W hJ hm
    refine ⟨_, _, _, _, run_yield hJ.2.2 (by rfl), ?_⟩
    have := hround fn m st x ends wrong W hJ hm
    simpa using this
  · intro m st W W' hJ hk
    have hk2 : KI w.heap.size W W' := ⟨hk.1, fun k o h1 h2 => hk.2 k o h1 (h2.imp (fun h => by omega) id)⟩
    exact ⟨g.rs_ki hfit hJ.1 hk2, hk.2 _ _ hJ.2.1 (.inl (by omega)), hk.2 _ _ hJ.2.2 (.inl (by omega))⟩
  · rintro k hk (h | h | h | h)
    · have := hfit.gb; omega
    · have := hfit.fb; omega
    · have := hfit.rb; omega
    · omega
  · intro m st W hJ
    obtain ⟨ov, q1, q2, q3⟩ := hJ.1.1
    exact ⟨(blk_cell hJ.1.2.2.2.2.1 0).trans rfl, (blk_cell q1 0).trans (by rw [hnv]; rfl), q3⟩
end Go.Proofs.YtbapfjjegbbmfaaGreatDoor.PGatherAlone
