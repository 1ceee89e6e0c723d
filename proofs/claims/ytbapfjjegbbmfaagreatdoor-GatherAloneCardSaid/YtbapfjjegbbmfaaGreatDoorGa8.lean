/-
  The reader goes over all nodes.
-/
import Derived.Test.YtbapfjjegbbmfaaGreatDoorGa7
set_option linter.unusedVariables false
set_option linter.unusedSimpArgs false
namespace Go.Proofs.YtbapfjjegbbmfaaGreatDoor.PGatherAlone
open Go.RowKit Go.Proofs.YtbapfjjegbbmfaaGreatDoorW.PrintWords Go.Proofs.YtbapfjjegbbmfaaGreatDoorW.PrintLast Go.Proofs.YtbapfjjegbbmfaaGreatDoorW.PrintMore
attribute [local go_sem] Oper.semAt_some

theorem KI.putLoop {S l : Nat} {W : World} {r : Loop} (h : W.heap[l]? = some (.loop r)) (hS : S ≤ l) (o : Obj) : KI S W (W.putObj l o) := by
  refine ⟨⟨rfl, rfl, rfl, by simp [World.putObj], fun _ h => by cases h⟩, fun k q h1 h2 => ?_⟩
  rw [World.putObj_heap_other (by rintro rfl; rcases h2 with h2 | ⟨cs, rfl⟩; · omega
                                  · rw [h] at h1; cases h1)]
  exact h1
theorem Kp.putObj {X : Nat → Prop} (W : World) (l : Nat) (o : Obj) (hX : X l) : Kp X W (W.putObj l o) :=
  ⟨by simp [World.putObj], fun k q h1 h2 _ => by rw [World.putObj_heap_other (by rintro rfl; exact h2 hX)]; exact h1⟩
/-- A round under way. -/
def RBI (g : GP) (D : Nat) (r : Loop) (m : Nat) (st : Int × List S51) (xb : Nat) (x : S53) (ends wrong : Bool) (W W2 : World) : Prop :=
  g.rs m st W2 ∧ W2.heap[D]? = some (.deferred (some [])) ∧ W2.heap[D + 1]? = some (.loop { r with state := .busy }) ∧
    W2.heap[xb]? = some (.cells #[.int .u8 x.f0, .int .i64 x.f1, .int .i64 x.f2, .int .i64 x.f3, .bool ends, .bool wrong] 89 (0, 0)) ∧ Kp (g.X D) W W2
theorem RBI.start {g : GP} {D : Nat} {r : Loop} {m : Nat} {st : Int × List S51} {x : S53} {ends wrong : Bool} {W : World} (hf : g.fits D) (h : g.J D r m st W) :
    RBI g D r m st W.heap.size x ends wrong W ((W.alloc (.cells #[.int .u8 x.f0, .int .i64 x.f1, .int .i64 x.f2, .int .i64 x.f3, .bool ends, .bool wrong] 89)).putObj (D + 1) (.loop { r with state := .busy })) := by
  obtain ⟨h1, h2, h3⟩ := h
  have hlt := blk_lt h3
  have k1 := blk_alloc h3 (.cells #[.int .u8 x.f0, .int .i64 x.f1, .int .i64 x.f2, .int .i64 x.f3, .bool ends, .bool wrong] 89)
  refine ⟨g.rs_ki hf h1 ((KI.below (below_alloc (Below.refl _ _) _)).trans (KI.putLoop k1 (by omega) _)), ?_, World.putObj_heap_same (blk_lt k1), ?_, (Kp.below (below_alloc (Below.refl _ _) _)).trans (Kp.putObj _ _ _ (.inr (.inr (.inr rfl))))⟩
  · rw [World.putObj_heap_other (by omega)]; exact blk_alloc h2 _
  · rw [World.putObj_heap_other (by omega)]; exact blk_new W _
theorem RBI.go {g : GP} {D : Nat} {r : Loop} {m : Nat} {st : Int × List S51} {xb : Nat} {x : S53} {ends wrong : Bool} {W W2 : World} (hf : g.fits D) (hr : r.state = .ready ∧ r.pending = none) (h : RBI g D r m st xb x ends wrong W W2) :
    g.J D r m st (W2.putObj (D + 1) (.loop { r with state := .ready, pending := none })) ∧ Kp (g.X D) W (W2.putObj (D + 1) (.loop { r with state := .ready, pending := none })) := by
  obtain ⟨h1, h2, h3, h4, h5⟩ := h
  refine ⟨⟨g.rs_ki hf h1 (KI.putLoop h3 (by omega) _), ?_, ?_⟩, h5.trans (Kp.putObj _ _ _ (.inr (.inr (.inr rfl))))⟩
  · rw [World.putObj_heap_other (by omega)]; exact h2
  · rw [World.putObj_heap_same (blk_lt h3)]
    obtain ⟨a, b⟩ := hr
    cases r; simp only at a b; subst a; subst b; rfl
theorem GP.jx {g : GP} {D : Nat} {r : Loop} {W2 : World} {out : List S51} (hf : g.fits D) (hG : GS g.W0 g.W0.heap.size g.gb g.nv (.slice g.Ap g.pl.length g.cp) g.Ag g.pgs.length g.cg out W2) (q5 : W2.heap[g.rb]? = some (.cells #[.bool false] 4 (0, 0))) (h2 : W2.heap[D]? = some (.deferred (some []))) (h3 : W2.heap[D + 1]? = some (.loop { r with state := .busy })) :
    (W2.setCell ⟨g.rb, 0, none⟩ (.bool false)).heap[D + 1]? = some (.loop { r with state := .busy }) ∧ g.Jx D r ((W2.setCell ⟨g.rb, 0, none⟩ (.bool false)).putObj (D + 1) (.loop { r with state := .done, pending := some .ret })) := by
  obtain ⟨ov, q1, q2, q3⟩ := hG
  have n1 : D ≠ g.rb := by have := hf.rb; omega
  have n2 : D + 1 ≠ g.rb := by have := hf.rb; omega
  have n3 : g.gb ≠ g.rb := by rintro e; rw [e] at q1; rw [q1] at q5; simp [gcells] at q5
  have e3 : (W2.setCell ⟨g.rb, 0, none⟩ (.bool false)).heap[D + 1]? = some (.loop { r with state := .busy }) := (Below.heap_setCell W2 ⟨g.rb, 0, none⟩ _ _ n2).trans h3
  have hk : KI D (W2.setCell ⟨g.rb, 0, none⟩ (.bool false)) ((W2.setCell ⟨g.rb, 0, none⟩ (.bool false)).putObj (D + 1) (.loop { r with state := .done, pending := some .ret })) := KI.putLoop e3 (by omega) _
  refine ⟨e3, ?_, ?_, World.putObj_heap_same (blk_lt e3), ov, _, hk.2 _ _ (blk_far q1 (p := ⟨g.rb, 0, none⟩) n3 _) (.inl hf.gb), R51_move (R_setT q2 q5 (by decide) 0 _) (fun k cs hc => hk.2 k _ hc (.inr ⟨cs, rfl⟩)), ?_⟩
  · rw [World.putObj_heap_other (by have := hf.rb; omega)]; exact blk_put q5 0 _ rfl
  · rw [World.putObj_heap_other (by omega)]; exact (Below.heap_setCell W2 ⟨g.rb, 0, none⟩ _ _ n1).trans h2
  · exact hk.toBelow (q3.setCell (p := ⟨g.rb, 0, none⟩) hf.wrb _) (by have := hf.w; have := hf.gb; omega)
theorem RBI.stop {g : GP} {D : Nat} {r : Loop} {m : Nat} {st : Int × List S51} {xb : Nat} {x : S53} {ends wrong : Bool} {W W2 : World} (hf : g.fits D) (h : RBI g D r m st xb x ends wrong W W2) :
    (W2.setCell ⟨g.rb, 0, none⟩ (.bool false)).heap[D + 1]? = some (.loop { r with state := .busy }) ∧ g.Jx D r ((W2.setCell ⟨g.rb, 0, none⟩ (.bool false)).putObj (D + 1) (.loop { r with state := .done, pending := some .ret })) :=
  GP.jx hf h.1.1 h.1.2.2.1 h.2.1 h.2.2.1
/-- What lies beside the gatherer's block lies there still. -/
theorem RBI.keep {g : GP} {D : Nat} {r : Loop} {m : Nat} {st : Int × List S51} {xb : Nat} {x : S53} {ends wrong : Bool} {W W2 W7 : World} (h : RBI g D r m st xb x ends wrong W W2) (hk : Kp (· = g.gb) W2 W7) :
    W7.heap[g.fb]? = some (.cells #[.int .i64 st.1] 3 (0, 0)) ∧ W7.heap[g.rb]? = some (.cells #[.bool false] 4 (0, 0)) ∧ W7.heap[g.b1]? = some (.cells #[.pointer (some ⟨g.gb, 0, none⟩)] 61 (0, 0)) ∧ W7.heap[g.b33]? = some (.cells #[.pointer (some ⟨g.gb, 0, none⟩)] 61 (0, 0)) ∧
      W7.heap[D]? = some (.deferred (some [])) ∧ W7.heap[D + 1]? = some (.loop { r with state := .busy }) ∧ W7.heap[xb]? = some (.cells #[.int .u8 x.f0, .int .i64 x.f1, .int .i64 x.f2, .int .i64 x.f3, .bool ends, .bool wrong] 89 (0, 0)) := by
  obtain ⟨⟨⟨ov, q1, q2, q3⟩, h4, h5, h6, h7, h8, h9⟩, a1, a2, a3, a4⟩ := h
  refine ⟨hk.blk h4 (Ne.symm (blk_ne q1 h4 (by decide))) (fun _ h => by cases h), hk.blk h5 (Ne.symm (blk_ne q1 h5 (by decide))) (fun _ h => by cases h), hk.blk h6 (Ne.symm (blk_ne q1 h6 (by decide))) (fun _ h => by cases h), hk.blk h7 (Ne.symm (blk_ne q1 h7 (by decide))) (fun _ h => by cases h), hk.blk a1 ?_ (fun _ h => by cases h), hk.blk a2 ?_ (fun _ h => by cases h), hk.blk a3 (Ne.symm (blk_ne q1 a3 (by decide))) (fun _ h => by cases h)⟩
  · rintro e; subst e; rw [q1] at a1; cases a1
  · rintro e; rw [e, q1] at a2; cases a2
theorem RBI.put {g : GP} {D : Nat} {r : Loop} {m : Nat} {st : Int × List S51} {xb : Nat} {x : S53} {ends wrong : Bool} {W W2 W7 : World} {out : List S51} (h : RBI g D r m st xb x ends wrong W W2) (hk : Kp (· = g.gb) W2 W7) (hG : GS g.W0 g.W0.heap.size g.gb g.nv (.slice g.Ap g.pl.length g.cp) g.Ag g.pgs.length g.cg out W7) (hl : out.length ≤ (m + 1) * 401) :
    RBI g D r (m + 1) (st.1, out) xb x ends wrong W W7 := by
  obtain ⟨k1, k2, k3, k4, k5, k6, k7⟩ := h.keep hk
  exact ⟨⟨hG, k1, k2, k3, k4, h.1.2.2.2.2.2.1, hl⟩, k5, k6, k7, h.2.2.2.2.trans (hk.mono (fun _ h => .inl h))⟩
theorem RBI.setFrom {g : GP} {D : Nat} {r : Loop} {m : Nat} {st : Int × List S51} {xb : Nat} {x : S53} {ends wrong : Bool} {W W2 : World} (hf : g.fits D) (hw : g.W0.heap.size ≤ g.fb) (h : RBI g D r m st xb x ends wrong W W2) (v : Int) (hv : 0 ≤ v) : RBI g D r m (v, st.2) xb x ends wrong W (W2.setCell ⟨g.fb, 0, none⟩ (.int .i64 v)) := by
  obtain ⟨⟨⟨ov, q1, q2, q3⟩, h4, h5, h6, h7, h8, h9⟩, a1, a2, a3, a4⟩ := h
  refine ⟨⟨⟨ov, blk_far q1 (p := ⟨g.fb, 0, none⟩) (blk_ne q1 h4 (by decide)) _, R_setT q2 h4 (by decide) 0 _, q3.setCell (p := ⟨g.fb, 0, none⟩) hw _⟩, blk_put h4 0 _ rfl, blk_far h5 (p := ⟨g.fb, 0, none⟩) (blk_ne h5 h4 (by decide)) _, blk_far h6 (p := ⟨g.fb, 0, none⟩) (blk_ne h6 h4 (by decide)) _, blk_far h7 (p := ⟨g.fb, 0, none⟩) (blk_ne h7 h4 (by decide)) _, hv, h9⟩,
    (Below.heap_setCell W2 ⟨g.fb, 0, none⟩ _ _ (by have := hf.fb; show D ≠ g.fb; omega)).trans a1, (Below.heap_setCell W2 ⟨g.fb, 0, none⟩ _ _ (by have := hf.fb; show D + 1 ≠ g.fb; omega)).trans a2, blk_far a3 (p := ⟨g.fb, 0, none⟩) (blk_ne a3 h4 (by decide)) _, a4.trans (Kp.set _ ⟨g.fb, 0, none⟩ _ (.inr (.inl rfl)))⟩
theorem txt_length {pgs : List S43} : ∀ {l : List S33} {ts : List S51}, txt pgs l = some ts → ts.length ≤ l.length
  | [], ts, h => by cases h; exact Nat.le_refl _
  | x :: l, ts, h => by
    simp only [txt, Option.bind_eq_some_iff, Option.map_eq_some_iff] at h
    obtain ⟨a, h1, b, h2, rfl⟩ := h
    have := tk_length h1; have := txt_length h2
    simp only [List.length_append, List.length_cons]; omega
theorem textsF_some {pgs : List S43} {pl : List S33} {x : S53} {f : Int} {ts : List S51} (h : textsF pgs pl x f = some ts) : f ≤ x.f3 ∧ ts.length ≤ pl.length := by
  unfold textsF at h
  split at h
  · cases h
  split at h
  · cases h
  split at h
  · cases h
  · have := txt_length h
    rw [List.length_drop, List.length_take] at this
    omega
/-- What a reader reads. -/
def readF (pgs : List S43) (pl : List S33) (nl : List S53) : Option (List S51) :=
  (iterF pgs pl nl nl.length 0 [] [] (0, [])).bind fun st => if st.1 = (pl.length : Int) then some st.2 else none
theorem steps_calls (gb : Nat) (W : World) : Calls Tryz.prog 33 #[.pointer (some ⟨gb, 0, none⟩)] W fun e w' => e = .returned (.func (.func 53) #[] #[.pointer (some ⟨W.heap.size, 0, none⟩)]) ∧ w' = W.alloc (.cells #[.pointer (some ⟨gb, 0, none⟩)] 61) := by
  go_enter Tryz.func33, Tryz.ntmps33
  go_wp2
  go_ret
  exact ⟨rfl, rfl⟩
theorem results_cell1 {fn : Func} {p : Tmp} {ty : TypeId} (h : fn.results = #[.cell p ty]) (tmps : Array Value) (P : Program) (w : World) {a : Addr} {v : Value} (hp : tmps.getD p undef = .pointer (some a)) (hl : (loadVar ty a).run P w = .ok v w) : (results fn tmps).run P w = .ok v w := by
  have hp' : tmps[p]?.getD undef = .pointer (some a) := by simpa using hp
  simp [results, h, hp', asAddr, hl]
theorem loadVar_bool {w : World} {a : Addr} {b : Bool} (h : w.cell? a = some (.bool b)) : (loadVar 4 a).run Tryz.prog w = .ok (.bool b) w := by
  have hu := Tryz.underlying4
  go_simp
def rd20a.T12 : Bool × List (List Nat × List Nat) := (true, [([], []), ([], []), ([1], [1]), ([2], [2]), ([3], [3]), ([], []), ([5], [5]), ([6], [6]), ([7], [7]), ([8], [8]), ([4, 9], [4, 9]), ([0, 0, 1, 2, 3, 4, 5, 6, 7, 8, 9, 10], [0]), ([11, 0, 1, 2, 3, 4, 5, 6, 7, 8, 9, 10], [11]), ([12, 10, 10, 0, 1, 2, 3, 4, 5, 6, 7, 8, 9, 10], [10, 12])])
def rd20a.B12 : List Nat := [0, 0, 2, 6, 14, 0, 32, 96, 224, 480, 1022, 2047, 4095, 8191]
theorem rd20a.tab12 : rtab .any (opsOf Tryz.f20 12) = rd20a.T12 := by kernel_rfl
theorem rd20a.bits12 : waitsOk rd20a.T12.2 rd20a.B12 = true := by kernel_rfl
def rd20b.T4 : Bool × List (List Nat × List Nat) := (true, [([], []), ([], []), ([1], [1]), ([2], [2]), ([3], [3]), ([], []), ([5], [5]), ([6], [6]), ([7], [7]), ([8], [8]), ([4, 9], [4, 9]), ([0, 0, 1, 2, 3, 4, 5, 6, 7, 8, 9, 10], [0]), ([11, 0, 1, 2, 3, 4, 5, 6, 7, 8, 9, 10], [11]), ([12, 10, 10, 0, 1, 2, 3, 4, 5, 6, 7, 8, 9, 10], [10, 12])])
def rd20b.B4 : List Nat := [0, 0, 2, 6, 14, 0, 32, 96, 224, 480, 1022, 2047, 4095, 8191]
theorem rd20b.tab4 : rtab .any (opsOf Tryz.f20 4) = rd20b.T4 := by kernel_rfl
theorem rd20b.bits4 : waitsOk rd20b.T4.2 rd20b.B4 = true := by kernel_rfl
def ReadR (W0 : World) (gb : Nat) (nv pv : Value) (Ag : Option Addr) (n cg : Nat) (r : Option (List S51)) (e : Ending) (w' : World) : Prop :=
  e = .returned (.bool r.isSome) ∧ ∃ ov out, w'.heap[gb]? = some (gcells nv pv Ag n cg ov) ∧ Kd.R k51 51 w' W0.heap.size (fun _ => True) ov out ∧ Below W0.heap.size W0 w' ∧ ∀ l, r = some l → out = l
set_option maxRecDepth 100000 in
set_option maxHeartbeats 8000000 in
theorem read_calls (W0 : World) (gb : Nat) (Ag Ap An : Option Addr) (cg cp cn : Nat) (pgs : List S43) (pl : List S33) (nl : List S53) (w : World) (hp : Kd.C k43 W0 Ag pgs.length pgs) (hpl : Kd.C k33 W0 Ap pl.length pl) (hcp : pl.length ≤ cp) (hn : Kd.C k53 W0 An nl.length nl)
    (hpw : ∀ y ∈ pl, wf33 y) (hl : pl.length ≤ 400) (hnl : nl.length ≤ 200) (hS : GS W0 W0.heap.size gb (.slice An nl.length cn) (.slice Ap pl.length cp) Ag pgs.length cg [] w) (hBg : W0.heap.size ≤ gb) :
    Calls Tryz.prog 20 #[.pointer (some ⟨gb, 0, none⟩)] w (ReadR W0 gb (.slice An nl.length cn) (.slice Ap pl.length cp) Ag pgs.length cg (readF pgs pl nl)) := by
  have hu53 := Tryz.underlying53
  have hu63 := Tryz.underlying63
  have hu27 := Tryz.underlying27
  have hu89 := Tryz.underlying89
  have hu51 := Tryz.underlying51
  have HP := Aside0.mk hp
  have HPL := Aside0.mk hpl
  have HCP := Aside0.mk hcp
  have HN := Aside0.mk hn
  have HPW := Aside0.mk hpw
  have HL := Aside0.mk hl
  have HNL := Aside0.mk hnl
  have HS := Aside0.mk hS
  have HBG := Aside0.mk hBg
  clear hp hpl hcp hn hpw hl hnl hS hBg
  obtain ⟨w4, hw4⟩ : ∃ w4, (((w.alloc (.cells #[.pointer (some ⟨gb, 0, none⟩)] 61)).alloc (.cells #[.bool false] 4)).alloc (.cells #[.int .i64 0] 3)).alloc (.cells #[.pointer (some ⟨gb, 0, none⟩)] 61) = w4 := ⟨_, rfl⟩
  have HW4 := Aside0.mk hw4
  clear hw4
  refine (callsIn_wide (n := 0)).1 ?_
  refine callsIn_of_wp_marks Tryz.func20 rfl trivial ?_ rfl
  simp only [Tryz.ntmps20, List.size_toArray, List.length_cons, List.length_nil, Nat.reduceAdd, Nat.reduceSub, Array.replicate_succ, Array.replicate_zero, List.push_toArray, List.append_toArray, List.nil_append, List.cons_append]
  gi_wp2
  refine ⟨trivial, rfl, (callsIn_wide.2 (steps_calls gb _)).mono ?_⟩
  rintro e w' ⟨rfl, rfl⟩
  gi_wp2
  have hw4 := HW4.out
  have hgs : gb < w.heap.size := HS.out.size
  have hrs : GP.rs ⟨W0, gb, w.heap.size + 1 + 1, w.heap.size + 1, w.heap.size, w.heap.size + 1 + 1 + 1, .slice An nl.length cn, Ap, cp, Ag, cg, pl, pgs⟩ 0 (0, []) w4 := by
    rw [← hw4]
    have hb := below_alloc (below_alloc (two_alloc w (.cells #[.pointer (some ⟨gb, 0, none⟩)] 61) (.cells #[.bool false] 4)) (.cells #[.int .i64 0] 3)) (.cells #[.pointer (some ⟨gb, 0, none⟩)] 61)
    refine ⟨HS.out.below hb (by have := HBG.out; omega), ?_, ?_, blk_alloc (blk_alloc (blk_alloc (blk_new w _) _) _) _, ?_, Int.le_refl _, Nat.zero_le _⟩
    · have := blk_alloc (blk_new ((w.alloc (.cells #[.pointer (some ⟨gb, 0, none⟩)] 61)).alloc (.cells #[.bool false] 4)) (.cells #[.int .i64 0] 3)) (.cells #[.pointer (some ⟨gb, 0, none⟩)] 61)
      simpa using this
    · have := blk_alloc (blk_alloc (blk_new (w.alloc (.cells #[.pointer (some ⟨gb, 0, none⟩)] 61)) (.cells #[.bool false] 4)) (.cells #[.int .i64 0] 3)) (.cells #[.pointer (some ⟨gb, 0, none⟩)] 61)
      simpa using this
    · have := blk_new (((w.alloc (.cells #[.pointer (some ⟨gb, 0, none⟩)] 61)).alloc (.cells #[.bool false] 4)).alloc (.cells #[.int .i64 0] 3)) (.cells #[.pointer (some ⟨gb, 0, none⟩)] 61)
      simpa using this
  have hs4 : w4.heap.size = w.heap.size + 4 := by rw [← hw4]; simp
  have hfit : GP.fits ⟨W0, gb, w.heap.size + 1 + 1, w.heap.size + 1, w.heap.size, w.heap.size + 1 + 1 + 1, .slice An nl.length cn, Ap, cp, Ag, cg, pl, pgs⟩ w4.heap.size := by
    have := HBG.out
    constructor <;> dsimp only <;> omega
  rw [hw4]
  have HS4 := Aside0.mk hs4
  have HGS := Aside0.mk hgs
  clear hw4 hs4 hgs HS HW4
  refine range_read ⟨W0, gb, w.heap.size + 1 + 1, w.heap.size + 1, w.heap.size, w.heap.size + 1 + 1 + 1, .slice An nl.length cn, Ap, cp, Ag, cg, pl, pgs⟩ (nl := nl) (An := An) (cn := cn) rfl hrs hfit HN.out rfl HNL.out ?round ?done ?stop
  case round =>
    intro fn m st x ends wrong W hJ hm
    have hRB := RBI.start (x := x) (ends := ends) (wrong := wrong) hfit hJ
    have HFIT := Aside0.mk hfit
    have HM := Aside0.mk hm
    have hL1 := blk_alloc hJ.2.2 (.cells #[.int .u8 x.f0, .int .i64 x.f1, .int .i64 x.f2, .int .i64 x.f3, .bool ends, .bool wrong] 89)
    have HJ0 := Aside0.mk hJ.1
    clear hrs hfit hJ hm
    refine roundIn_of_wpIn trivial ?_
    gi_wp2
    refine ⟨_, run_beginRound hL1 rfl, ?_⟩
    clear hL1
    generalize hW2 : World.putObj (W.alloc _) _ _ = W2 at hRB ⊢
    clear hW2
    have HRB := Aside0.mk hRB
    obtain ⟨⟨hGSx, hF, hRb, hX, h33, hf0, hlen⟩, hD, hLp, hB, hK⟩ := hRB
    dsimp only at hGSx hF hRb hX h33
    have HGX := Aside0.mk hGSx
    have HLEN := Aside0.mk hlen
    have HF0 := Aside0.mk hf0
    have q1 : W2.cell? ⟨w.heap.size, 0, none⟩ = some (.pointer (some ⟨gb, 0, none⟩)) := (blk_cell hX 0).trans rfl
    have q2 : W2.cell? ⟨w.heap.size + 1, 0, none⟩ = some (.bool false) := (blk_cell hRb 0).trans rfl
    have q3 : W2.cell? ⟨w.heap.size + 1 + 1, 0, none⟩ = some (.int .i64 st.1) := (blk_cell hF 0).trans rfl
    have z2 := blk_frozen hRb 0
    have z3 := blk_frozen hF 0
    have y0 : W2.cell? ⟨W.heap.size, 0, none⟩ = some (.int .u8 x.f0) := (blk_cell hB 0).trans rfl
    have y1 : W2.cell? ⟨W.heap.size, 1, none⟩ = some (.int .i64 x.f1) := (blk_cell hB 1).trans rfl
    have y2 : W2.cell? ⟨W.heap.size, 2, none⟩ = some (.int .i64 x.f2) := (blk_cell hB 2).trans rfl
    have y3 : W2.cell? ⟨W.heap.size, 3, none⟩ = some (.int .i64 x.f3) := (blk_cell hB 3).trans rfl
    have y4 : W2.cell? ⟨W.heap.size, 4, none⟩ = some (.bool ends) := (blk_cell hB 4).trans rfl
    have y5 : W2.cell? ⟨W.heap.size, 5, none⟩ = some (.bool wrong) := (blk_cell hB 5).trans rfl
    have HB := Aside0.mk hB
    have HX := Aside0.mk hX
    clear hGSx hF hRb hX h33 hf0 hlen hD hLp hB hK
    cases wrong with
    | true =>
      gi_wp2
      have hst := RBI.stop HFIT.out HRB.out
      exact ⟨_, _, run_endRound (some .ret) hst.1, false, rfl, .inr ⟨rfl, by simp [bodyF], hst.2⟩⟩
    | false =>
    by_cases hk : x.f0 = 46
    · have b1 : (x.f0 == 46) = true := beq_iff_eq.mpr hk
      have hT := texts_calls W0 gb (.slice An nl.length cn) Ag Ap cg cp pgs pl st.2 x st.1 W2 HP.out HPL.out HCP.out HPW.out HGX.out HBG.out HF0.out (by have := HLEN.out; have := HM.out; have := HL.out; omega)
      simp only [val53] at hT
      have HT := Aside0.mk hT
      have HBF := Aside0.mk (show bodyF pgs pl st x ends false = (textsF pgs pl x st.1).map fun ts => (x.f3, st.2 ++ ts) by simp [bodyF, hk])
      clear hT hk
      gi_wp2
      refine ⟨trivial, rfl, (CallsIn.inRound _ (callsIn_wide.2 HT.out)).mono ?_⟩
      clear HT
      rintro e W5 ⟨rfl, hK5, out', hG5, ho⟩
      have hkp := HRB.out.keep hK5
      have HK56 := Aside0.mk (And.intro hkp.2.1 (And.intro hkp.2.2.2.2.1 hkp.2.2.2.2.2.1))
      dsimp only at hkp
      obtain ⟨k1, k2, k3, k4, k5, k6, k7⟩ := hkp
      generalize htx : textsF pgs pl x st.1 = r at ho HBF ⊢
      have HK5 := Aside0.mk hK5
      have HG5 := Aside0.mk hG5
      have HTX := Aside0.mk htx
      have c2 : W5.cell? ⟨w.heap.size + 1, 0, none⟩ = some (.bool false) := (blk_cell k2 0).trans rfl
      have c3 : W5.cell? ⟨w.heap.size + 1 + 1, 0, none⟩ = some (.int .i64 st.1) := (blk_cell k1 0).trans rfl
      have f2 := blk_frozen k2 0
      have f3 := blk_frozen k1 0
      have e3 : W5.cell? ⟨W.heap.size, 3, none⟩ = some (.int .i64 x.f3) := (blk_cell k7 3).trans rfl
      clear hK5 hG5 htx k1 k2 k3 k4 k5 k6 k7 q1 q2 q3 z2 z3 y0 y1 y2 y3 y4 y5
      cases r with
      | none =>
        clear ho
        gi_wp2
        have hst := GP.jx (r := recOf fn _ #[7] _ _ _) HFIT.out HG5.out HK56.out.1 HK56.out.2.1 HK56.out.2.2
        exact ⟨_, _, run_endRound (some .ret) hst.1, false, rfl, .inr ⟨rfl, by rw [HBF.out]; rfl, hst.2⟩⟩
      | some ts =>
        obtain rfl := ho ts rfl
        have hts := textsF_some HTX.out
        have HTS := Aside0.mk hts
        clear ho hts
        gi_wp2
        have hrb := RBI.setFrom HFIT.out (by have := HBG.out; have := HGS.out; dsimp only; omega) (HRB.out.put HK5.out HG5.out (by have := HLEN.out; have := HTS.out; have := HL.out; simp; omega)) x.f3 (by have := HTS.out; have := HF0.out; omega)
        have hgo := RBI.go HFIT.out ⟨rfl, rfl⟩ hrb
        exact ⟨_, _, run_endRound none hrb.2.2.1, true, rfl, .inl ⟨rfl, (x.f3, st.2 ++ ts), by rw [HBF.out]; rfl, hgo.1, hgo.2⟩⟩
    have b1 : (x.f0 == 46) = false := beq_eq_false_iff_ne.mpr hk
    cases ends with
    | true =>
      have HBF := Aside0.mk (show bodyF pgs pl st x true false = some (st.1, st.2 ++ [⟨3, x.f0, 0⟩]) by simp [bodyF, hk])
      clear hk
      gi_wp2
      obtain ⟨ov, hG, hR, hB0⟩ := HGX.out
      have hX := HX.out
      have hB := HB.out
      have hgl := blk_lt hG
      have hne : w.heap.size ≠ gb := blk_ne hX hG (by decide)
      have hneB : W.heap.size ≠ gb := blk_ne hB hG (by decide)
      have x0 : W2.cell? ⟨w.heap.size, 0, none⟩ = some (.pointer (some ⟨gb, 0, none⟩)) := q1
      have x1 : W2.cell? ⟨gb, 3, none⟩ = some ov := (blk_cell hG 3).trans rfl
      have x2 : W2.cell? ⟨W.heap.size, 0, none⟩ = some (.int .u8 x.f0) := y0
      clear q1 q2 q3 z2 z3 y0 y1 y2 y3 y4 y5
      refine start_in (k := 14) (S := fun w' => w'.cell? ⟨w.heap.size, 0, none⟩ = some (.pointer (some ⟨gb, 0, none⟩)) ∧ w'.cell? ⟨gb, 3, none⟩ = some ov ∧ w'.cell? ⟨W.heap.size, 0, none⟩ = some (.int .u8 x.f0)) (ds := [13]) #[false, false, false, false, false, false, false, false, false, false, false, false, false, false] (by kernel_rfl) rfl rfl (by kernel_rfl) ?hQ12 ⟨x0, x1, x2⟩ (fun hHeld => ?_)
      case hQ12 => (rintro ⟨_, _, h⟩; exact h)
      refine with_tabW rd20a.tab12 rd20a.bits12 (fun HT_ HW_ => ?_)
      replace hX : W2.drew.heap[w.heap.size]? = _ := blk_drew hX
      replace hG : W2.drew.heap[gb]? = _ := blk_drew hG
      replace hB : W2.drew.heap[W.heap.size]? = _ := blk_drew hB
      replace hR := Kd.R_drew hR
      replace hB0 : Below W0.heap.size W0 W2.drew := below_drew1 hB0
      have hK0 : Kp (· = gb) W2 W2.drew := Kp.below (below_drew1 (Below.refl _ _))
      have hg5 : gb < W2.drew.heap.size := hgl
      clear hgl
      generalize W2.drew = w5 at hX hG hR hB hB0 hK0 hg5 x0 x1 x2 hHeld ⊢
      refine take_ (i := 0) (N := some 41) (v := ?_) (a' := ?_) #[true, false, false, false, false, false, false, false, false, false, false, false, false, false] rfl rfl (take_ofW HT_.out HW_.out (by kernel_rfl)) (fun _ _ _ h => h) (Or.inl ⟨by rfl, ?_⟩) hHeld ?_ ?_
      rotate_left
      · rintro w' ⟨s0, s1, s2⟩
        go_simp
        with_reducible rfl
      rotate_left
      · simp only [Act.put, List.setIfInBounds_toArray, List.set_cons_zero, List.set_cons_succ, i64_w, i32_w]
        rfl
      refine take_ (i := 1) (N := some 42) (v := ?_) (a' := ?_) #[true, true, false, false, false, false, false, false, false, false, false, false, false, false] rfl rfl (take_ofW HT_.out HW_.out (by kernel_rfl)) (fun _ _ _ h => h) (Or.inl ⟨by rfl, ?_⟩) hHeld ?_ ?_
      rotate_left
      · rintro w' ⟨s0, s1, s2⟩
        go_simp
        with_reducible rfl
      rotate_left
      · simp only [Act.put, List.setIfInBounds_toArray, List.set_cons_zero, List.set_cons_succ, i64_w, i32_w]
        rfl
      refine pure_ (i := 2) (N := some 43) (v := ?_) (a' := ?_) #[true, true, true, false, false, false, false, false, false, false, false, false, false, false] rfl rfl (any_of HT_.out (by kernel_rfl)) (fun _ _ _ h => h) (Or.inl ⟨by rfl, ?_⟩) ?_ ?_
      rotate_left
      · intro w'
        go_simp
        with_reducible rfl
      rotate_left
      · simp only [Act.put, List.setIfInBounds_toArray, List.set_cons_zero, List.set_cons_succ, i64_w, i32_w]
        rfl
      refine pure_ (i := 3) (N := some 44) (v := ?_) (a' := ?_) #[true, true, true, true, false, false, false, false, false, false, false, false, false, false] rfl rfl (any_of HT_.out (by kernel_rfl)) (fun _ _ _ h => h) (Or.inl ⟨by rfl, ?_⟩) ?_ ?_
      rotate_left
      · intro w'
        go_simp
        with_reducible rfl
      rotate_left
      · simp only [Act.put, List.setIfInBounds_toArray, List.set_cons_zero, List.set_cons_succ, i64_w, i32_w]
        rfl
      refine take_ (i := 4) (N := some 45) (v := ?_) (a' := ?_) #[true, true, true, true, true, false, false, false, false, false, false, false, false, false] rfl rfl (take_ofW HT_.out HW_.out (by kernel_rfl)) (fun _ _ _ h => h) (Or.inl ⟨by rfl, ?_⟩) hHeld ?_ ?_
      rotate_left
      · rintro w' ⟨s0, s1, s2⟩
        go_simp
        with_reducible rfl
      rotate_left
      · simp only [Act.put, List.setIfInBounds_toArray, List.set_cons_zero, List.set_cons_succ, i64_w, i32_w]
        rfl
      refine pure_ (i := 5) (N := some 46) (v := ?_) (a' := ?_) #[true, true, true, true, true, true, false, false, false, false, false, false, false, false] rfl rfl (any_of HT_.out (by kernel_rfl)) (fun _ _ _ h => h) (Or.inl ⟨by rfl, ?_⟩) ?_ ?_
      rotate_left
      · intro w'
        go_simp
        with_reducible rfl
      rotate_left
      · simp only [Act.put, List.setIfInBounds_toArray, List.set_cons_zero, List.set_cons_succ, i64_w, i32_w]
        rfl
      refine pure_ (i := 6) (N := some 47) (v := ?_) (a' := ?_) #[true, true, true, true, true, true, true, false, false, false, false, false, false, false] rfl rfl (any_of HT_.out (by kernel_rfl)) (fun _ _ _ h => h) (Or.inl ⟨by rfl, ?_⟩) ?_ ?_
      rotate_left
      · intro w'
        go_simp
        with_reducible rfl
      rotate_left
      · simp only [Act.put, List.setIfInBounds_toArray, List.set_cons_zero, List.set_cons_succ, i64_w, i32_w]
        rfl
      refine take_ (i := 7) (N := some 48) (v := ?_) (a' := ?_) #[true, true, true, true, true, true, true, true, false, false, false, false, false, false] rfl rfl (take_ofW HT_.out HW_.out (by kernel_rfl)) (fun _ _ _ h => h) (Or.inl ⟨by rfl, ?_⟩) hHeld ?_ ?_
      rotate_left
      · rintro w' ⟨s0, s1, s2⟩
        go_simp
        with_reducible rfl
      rotate_left
      · simp only [Act.put, List.setIfInBounds_toArray, List.set_cons_zero, List.set_cons_succ, i64_w, i32_w]
        rfl
      refine pure_ (i := 8) (N := some 49) (v := ?_) (a' := ?_) #[true, true, true, true, true, true, true, true, true, false, false, false, false, false] rfl rfl (any_of HT_.out (by kernel_rfl)) (fun _ _ _ h => h) (Or.inl ⟨by rfl, ?_⟩) ?_ ?_
      rotate_left
      · intro w'
        go_simp
        with_reducible rfl
      rotate_left
      · simp only [Act.put, List.setIfInBounds_toArray, List.set_cons_zero, List.set_cons_succ, i64_w, i32_w]
        rfl
      refine one_ (i := 9) (N := some 50) #[true, true, true, true, true, true, true, true, true, true, false, false, false, false] rfl rfl (one_of HT_.out (by kernel_rfl)) (by decide) (fun K hK => ?_)
      refine value_ (w1 := ?_) (v := ?_) (by rfl) rfl ?_ ?_
      rotate_left 2
      · go_simp
        constructor
        · rfl
        · rfl
      refine hK.out _ _ ⟨(blk_cell (blk_alloc hX _) 0).trans rfl, (blk_cell (blk_alloc hG _) 3).trans rfl, (blk_cell (blk_alloc hB _) 0).trans rfl⟩ (fun hHeld => ?_)
      clear hK K
      refine norm_ (a' := ?_) ?_ ?_
      rotate_left
      · show Act.put _ (some 50) _ = _
        simp only [Act.put, List.setIfInBounds_toArray, List.set_cons_zero, List.set_cons_succ, i64_w, i32_w]
        rfl
      refine one_ (i := 10) (N := some 51) #[true, true, true, true, true, true, true, true, true, true, true, false, false, false] rfl rfl (one_of HT_.out (by kernel_rfl)) (by decide) (fun K hK => ?_)
      refine Kd.R_append_step k51 (w0 := W0) W0.heap.size (by rfl) (.tmp 45) (.tmp 50) 22 51 (.agg #[.int .i64 0, .int .u8 0, .int .i64 0]) 24 rfl Tryz.underlying22 info51 rfl (by decide) (by omega) ov st.2 (⟨3, x.f0, 0⟩ : S51) [.int .i64 3, .int .u8 x.f0, .int .i64 0] (fun _ => True) (fun _ => False) rfl rfl ?aP (fun _ hk => hk.elim) ?aF ?aO ?aB ?aS ?aL ?_
      (case aP => exact k51_mkM _ _ _ (⟨3, x.f0, 0⟩ : S51))
      (case aB => exact hB0)
      (case aF => exact (fun _ _ => trivial))
      (case aO => exact hR)
      (case aS => have := HBG.out; exact (by omega))
      (case aL => have := HLEN.out; have := HM.out; omega)
      intro v1 w1 ho hb hg hat
      have hK1 := Kp.grown (X := (· = gb)) hR hg
      have hX1 := hK1.2 w.heap.size _ hX hne (fun cs h => by cases h)
      have hB1 := hK1.2 W.heap.size _ hB hneB (fun cs h => by cases h)
      have hG1 := blk_grown (g := gb) hG hg (Kd.R_ne hR hG (by decide))
      refine hK.out _ _ ⟨(blk_cell hX1 0).trans rfl, (blk_cell hG1 3).trans rfl, (blk_cell hB1 0).trans rfl⟩ (fun hHeld => ?_)
      clear hK K
      refine norm_ (a' := ?_) ?_ ?_
      rotate_left
      · show Act.put _ (some 51) _ = _
        simp only [Act.put, List.setIfInBounds_toArray, List.set_cons_zero, List.set_cons_succ, i64_w, i32_w]
        rfl
      refine pure_ (i := 11) (N := some 52) (v := ?_) (a' := ?_) #[true, true, true, true, true, true, true, true, true, true, true, true, false, false] rfl rfl (any_of HT_.out (by kernel_rfl)) (fun _ _ _ h => h) (Or.inl ⟨by rfl, ?_⟩) ?_ ?_
      rotate_left
      · intro w'
        go_simp
        with_reducible rfl
      rotate_left
      · simp only [Act.put, List.setIfInBounds_toArray, List.set_cons_zero, List.set_cons_succ, i64_w, i32_w]
        rfl
      refine pure_ (i := 12) (N := some 53) (v := ?_) (a' := ?_) #[true, true, true, true, true, true, true, true, true, true, true, true, true, false] rfl rfl (any_of HT_.out (by kernel_rfl)) (fun _ _ _ h => h) (Or.inl ⟨by rfl, ?_⟩) ?_ ?_
      rotate_left
      · intro w'
        go_simp
        with_reducible rfl
      rotate_left
      · simp only [Act.put, List.setIfInBounds_toArray, List.set_cons_zero, List.set_cons_succ, i64_w, i32_w]
        rfl
      refine last_ (i := 13) (N := none) #[true, true, true, true, true, true, true, true, true, true, true, true, true, true] rfl rfl (one_of HT_.out (by kernel_rfl)) (by decide) (fun K hK => ?_)
      have hs12 : w1.cell? ⟨gb, 3, none⟩ = some ov := (blk_cell hG1 3).trans rfl
      have hfs12 := blk_frozen hG1 3
      obtain ⟨Ao, co, eo⟩ := Kd.R_slice ho
      subst eo
      refine skip_ (w1 := ?_) (by rfl) rfl ?_ ?_
      rotate_left
      · go_simp
        rfl
      refine hK.out _ _ ?_
      clear hK K
      refine done_ (done_of HT_.out (by kernel_rfl)) ?_
      have ho2 : Kd.R k51 51 w1 W0.heap.size (fun _ => True) (.slice Ao (st.2.length + 1) co) (st.2 ++ [⟨3, x.f0, 0⟩]) := by simpa only [List.length_append, List.length_cons, List.length_nil] using ho
      have HGS7 := Aside0.mk (GS_put hG1 ho2 hb HBG.out)
      have HKF := Aside0.mk ((hK0.trans hK1).trans (Kp.set _ ⟨gb, 3, none⟩ (.slice Ao (st.2.length + 1) co) rfl))
      gi_wp2
      have hrb := HRB.out.put HKF.out HGS7.out (by have := HLEN.out; simp; omega)
      have hgo := RBI.go HFIT.out ⟨rfl, rfl⟩ hrb
      exact ⟨_, _, run_endRound none hrb.2.2.1, true, rfl, .inl ⟨rfl, (st.1, st.2 ++ [⟨3, x.f0, 0⟩]), HBF.out, hgo.1, hgo.2⟩⟩
    | false =>
      have HBF := Aside0.mk (show bodyF pgs pl st x false false = some (st.1, st.2 ++ [⟨2, x.f0, 0⟩]) by simp [bodyF, hk])
      clear hk
      gi_wp2
      obtain ⟨ov, hG, hR, hB0⟩ := HGX.out
      have hX := HX.out
      have hB := HB.out
      have hgl := blk_lt hG
      have hne : w.heap.size ≠ gb := blk_ne hX hG (by decide)
      have hneB : W.heap.size ≠ gb := blk_ne hB hG (by decide)
      have x0 : W2.cell? ⟨w.heap.size, 0, none⟩ = some (.pointer (some ⟨gb, 0, none⟩)) := q1
      have x1 : W2.cell? ⟨gb, 3, none⟩ = some ov := (blk_cell hG 3).trans rfl
      have x2 : W2.cell? ⟨W.heap.size, 0, none⟩ = some (.int .u8 x.f0) := y0
      clear q1 q2 q3 z2 z3 y0 y1 y2 y3 y4 y5
      refine start_in (k := 14) (S := fun w' => w'.cell? ⟨w.heap.size, 0, none⟩ = some (.pointer (some ⟨gb, 0, none⟩)) ∧ w'.cell? ⟨gb, 3, none⟩ = some ov ∧ w'.cell? ⟨W.heap.size, 0, none⟩ = some (.int .u8 x.f0)) (ds := [13]) #[false, false, false, false, false, false, false, false, false, false, false, false, false, false] (by kernel_rfl) rfl rfl (by kernel_rfl) ?hQ4 ⟨x0, x1, x2⟩ (fun hHeld => ?_)
      case hQ4 => (rintro ⟨_, _, h⟩; exact h)
      refine with_tabW rd20b.tab4 rd20b.bits4 (fun HT_ HW_ => ?_)
      replace hX : W2.drew.heap[w.heap.size]? = _ := blk_drew hX
      replace hG : W2.drew.heap[gb]? = _ := blk_drew hG
      replace hB : W2.drew.heap[W.heap.size]? = _ := blk_drew hB
      replace hR := Kd.R_drew hR
      replace hB0 : Below W0.heap.size W0 W2.drew := below_drew1 hB0
      have hK0 : Kp (· = gb) W2 W2.drew := Kp.below (below_drew1 (Below.refl _ _))
      have hg5 : gb < W2.drew.heap.size := hgl
      clear hgl
      generalize W2.drew = w5 at hX hG hR hB hB0 hK0 hg5 x0 x1 x2 hHeld ⊢
      refine take_ (i := 0) (N := some 8) (v := ?_) (a' := ?_) #[true, false, false, false, false, false, false, false, false, false, false, false, false, false] rfl rfl (take_ofW HT_.out HW_.out (by kernel_rfl)) (fun _ _ _ h => h) (Or.inl ⟨by rfl, ?_⟩) hHeld ?_ ?_
      rotate_left
      · rintro w' ⟨s0, s1, s2⟩
        go_simp
        with_reducible rfl
      rotate_left
      · simp only [Act.put, List.setIfInBounds_toArray, List.set_cons_zero, List.set_cons_succ, i64_w, i32_w]
        rfl
      refine take_ (i := 1) (N := some 9) (v := ?_) (a' := ?_) #[true, true, false, false, false, false, false, false, false, false, false, false, false, false] rfl rfl (take_ofW HT_.out HW_.out (by kernel_rfl)) (fun _ _ _ h => h) (Or.inl ⟨by rfl, ?_⟩) hHeld ?_ ?_
      rotate_left
      · rintro w' ⟨s0, s1, s2⟩
        go_simp
        with_reducible rfl
      rotate_left
      · simp only [Act.put, List.setIfInBounds_toArray, List.set_cons_zero, List.set_cons_succ, i64_w, i32_w]
        rfl
      refine pure_ (i := 2) (N := some 10) (v := ?_) (a' := ?_) #[true, true, true, false, false, false, false, false, false, false, false, false, false, false] rfl rfl (any_of HT_.out (by kernel_rfl)) (fun _ _ _ h => h) (Or.inl ⟨by rfl, ?_⟩) ?_ ?_
      rotate_left
      · intro w'
        go_simp
        with_reducible rfl
      rotate_left
      · simp only [Act.put, List.setIfInBounds_toArray, List.set_cons_zero, List.set_cons_succ, i64_w, i32_w]
        rfl
      refine pure_ (i := 3) (N := some 11) (v := ?_) (a' := ?_) #[true, true, true, true, false, false, false, false, false, false, false, false, false, false] rfl rfl (any_of HT_.out (by kernel_rfl)) (fun _ _ _ h => h) (Or.inl ⟨by rfl, ?_⟩) ?_ ?_
      rotate_left
      · intro w'
        go_simp
        with_reducible rfl
      rotate_left
      · simp only [Act.put, List.setIfInBounds_toArray, List.set_cons_zero, List.set_cons_succ, i64_w, i32_w]
        rfl
      refine take_ (i := 4) (N := some 12) (v := ?_) (a' := ?_) #[true, true, true, true, true, false, false, false, false, false, false, false, false, false] rfl rfl (take_ofW HT_.out HW_.out (by kernel_rfl)) (fun _ _ _ h => h) (Or.inl ⟨by rfl, ?_⟩) hHeld ?_ ?_
      rotate_left
      · rintro w' ⟨s0, s1, s2⟩
        go_simp
        with_reducible rfl
      rotate_left
      · simp only [Act.put, List.setIfInBounds_toArray, List.set_cons_zero, List.set_cons_succ, i64_w, i32_w]
        rfl
      refine pure_ (i := 5) (N := some 13) (v := ?_) (a' := ?_) #[true, true, true, true, true, true, false, false, false, false, false, false, false, false] rfl rfl (any_of HT_.out (by kernel_rfl)) (fun _ _ _ h => h) (Or.inl ⟨by rfl, ?_⟩) ?_ ?_
      rotate_left
      · intro w'
        go_simp
        with_reducible rfl
      rotate_left
      · simp only [Act.put, List.setIfInBounds_toArray, List.set_cons_zero, List.set_cons_succ, i64_w, i32_w]
        rfl
      refine pure_ (i := 6) (N := some 14) (v := ?_) (a' := ?_) #[true, true, true, true, true, true, true, false, false, false, false, false, false, false] rfl rfl (any_of HT_.out (by kernel_rfl)) (fun _ _ _ h => h) (Or.inl ⟨by rfl, ?_⟩) ?_ ?_
      rotate_left
      · intro w'
        go_simp
        with_reducible rfl
      rotate_left
      · simp only [Act.put, List.setIfInBounds_toArray, List.set_cons_zero, List.set_cons_succ, i64_w, i32_w]
        rfl
      refine take_ (i := 7) (N := some 15) (v := ?_) (a' := ?_) #[true, true, true, true, true, true, true, true, false, false, false, false, false, false] rfl rfl (take_ofW HT_.out HW_.out (by kernel_rfl)) (fun _ _ _ h => h) (Or.inl ⟨by rfl, ?_⟩) hHeld ?_ ?_
      rotate_left
      · rintro w' ⟨s0, s1, s2⟩
        go_simp
        with_reducible rfl
      rotate_left
      · simp only [Act.put, List.setIfInBounds_toArray, List.set_cons_zero, List.set_cons_succ, i64_w, i32_w]
        rfl
      refine pure_ (i := 8) (N := some 16) (v := ?_) (a' := ?_) #[true, true, true, true, true, true, true, true, true, false, false, false, false, false] rfl rfl (any_of HT_.out (by kernel_rfl)) (fun _ _ _ h => h) (Or.inl ⟨by rfl, ?_⟩) ?_ ?_
      rotate_left
      · intro w'
        go_simp
        with_reducible rfl
      rotate_left
      · simp only [Act.put, List.setIfInBounds_toArray, List.set_cons_zero, List.set_cons_succ, i64_w, i32_w]
        rfl
      refine one_ (i := 9) (N := some 17) #[true, true, true, true, true, true, true, true, true, true, false, false, false, false] rfl rfl (one_of HT_.out (by kernel_rfl)) (by decide) (fun K hK => ?_)
      refine value_ (w1 := ?_) (v := ?_) (by rfl) rfl ?_ ?_
      rotate_left 2
      · go_simp
        constructor
        · rfl
        · rfl
      refine hK.out _ _ ⟨(blk_cell (blk_alloc hX _) 0).trans rfl, (blk_cell (blk_alloc hG _) 3).trans rfl, (blk_cell (blk_alloc hB _) 0).trans rfl⟩ (fun hHeld => ?_)
      clear hK K
      refine norm_ (a' := ?_) ?_ ?_
      rotate_left
      · show Act.put _ (some 17) _ = _
        simp only [Act.put, List.setIfInBounds_toArray, List.set_cons_zero, List.set_cons_succ, i64_w, i32_w]
        rfl
      refine one_ (i := 10) (N := some 18) #[true, true, true, true, true, true, true, true, true, true, true, false, false, false] rfl rfl (one_of HT_.out (by kernel_rfl)) (by decide) (fun K hK => ?_)
      refine Kd.R_append_step k51 (w0 := W0) W0.heap.size (by rfl) (.tmp 12) (.tmp 17) 22 51 (.agg #[.int .i64 0, .int .u8 0, .int .i64 0]) 24 rfl Tryz.underlying22 info51 rfl (by decide) (by omega) ov st.2 (⟨2, x.f0, 0⟩ : S51) [.int .i64 2, .int .u8 x.f0, .int .i64 0] (fun _ => True) (fun _ => False) rfl rfl ?aP (fun _ hk => hk.elim) ?aF ?aO ?aB ?aS ?aL ?_
      (case aP => exact k51_mkM _ _ _ (⟨2, x.f0, 0⟩ : S51))
      (case aB => exact hB0)
      (case aF => exact (fun _ _ => trivial))
      (case aO => exact hR)
      (case aS => have := HBG.out; exact (by omega))
      (case aL => have := HLEN.out; have := HM.out; omega)
      intro v1 w1 ho hb hg hat
      have hK1 := Kp.grown (X := (· = gb)) hR hg
      have hX1 := hK1.2 w.heap.size _ hX hne (fun cs h => by cases h)
      have hB1 := hK1.2 W.heap.size _ hB hneB (fun cs h => by cases h)
      have hG1 := blk_grown (g := gb) hG hg (Kd.R_ne hR hG (by decide))
      refine hK.out _ _ ⟨(blk_cell hX1 0).trans rfl, (blk_cell hG1 3).trans rfl, (blk_cell hB1 0).trans rfl⟩ (fun hHeld => ?_)
      clear hK K
      refine norm_ (a' := ?_) ?_ ?_
      rotate_left
      · show Act.put _ (some 18) _ = _
        simp only [Act.put, List.setIfInBounds_toArray, List.set_cons_zero, List.set_cons_succ, i64_w, i32_w]
        rfl
      refine pure_ (i := 11) (N := some 19) (v := ?_) (a' := ?_) #[true, true, true, true, true, true, true, true, true, true, true, true, false, false] rfl rfl (any_of HT_.out (by kernel_rfl)) (fun _ _ _ h => h) (Or.inl ⟨by rfl, ?_⟩) ?_ ?_
      rotate_left
      · intro w'
        go_simp
        with_reducible rfl
      rotate_left
      · simp only [Act.put, List.setIfInBounds_toArray, List.set_cons_zero, List.set_cons_succ, i64_w, i32_w]
        rfl
      refine pure_ (i := 12) (N := some 20) (v := ?_) (a' := ?_) #[true, true, true, true, true, true, true, true, true, true, true, true, true, false] rfl rfl (any_of HT_.out (by kernel_rfl)) (fun _ _ _ h => h) (Or.inl ⟨by rfl, ?_⟩) ?_ ?_
      rotate_left
      · intro w'
        go_simp
        with_reducible rfl
      rotate_left
      · simp only [Act.put, List.setIfInBounds_toArray, List.set_cons_zero, List.set_cons_succ, i64_w, i32_w]
        rfl
      refine last_ (i := 13) (N := none) #[true, true, true, true, true, true, true, true, true, true, true, true, true, true] rfl rfl (one_of HT_.out (by kernel_rfl)) (by decide) (fun K hK => ?_)
      have hs12 : w1.cell? ⟨gb, 3, none⟩ = some ov := (blk_cell hG1 3).trans rfl
      have hfs12 := blk_frozen hG1 3
      obtain ⟨Ao, co, eo⟩ := Kd.R_slice ho
      subst eo
      refine skip_ (w1 := ?_) (by rfl) rfl ?_ ?_
      rotate_left
      · go_simp
        rfl
      refine hK.out _ _ ?_
      clear hK K
      refine done_ (done_of HT_.out (by kernel_rfl)) ?_
      have ho2 : Kd.R k51 51 w1 W0.heap.size (fun _ => True) (.slice Ao (st.2.length + 1) co) (st.2 ++ [⟨2, x.f0, 0⟩]) := by simpa only [List.length_append, List.length_cons, List.length_nil] using ho
      have HGS7 := Aside0.mk (GS_put hG1 ho2 hb HBG.out)
      have HKF := Aside0.mk ((hK0.trans hK1).trans (Kp.set _ ⟨gb, 3, none⟩ (.slice Ao (st.2.length + 1) co) rfl))
      gi_wp2
      have hrb := HRB.out.put HKF.out HGS7.out (by have := HLEN.out; simp; omega)
      have hgo := RBI.go HFIT.out ⟨rfl, rfl⟩ hrb
      exact ⟨_, _, run_endRound none hrb.2.2.1, true, rfl, .inl ⟨rfl, (st.1, st.2 ++ [⟨2, x.f0, 0⟩]), HBF.out, hgo.1, hgo.2⟩⟩
  case done =>
    intro st W hF hfb hx1 hfin
    clear hrs hfit
    obtain ⟨ov, f1, f2, f3, f4, f5⟩ := hfin
    dsimp only at hfb hx1 f1 f2 f3 f4
    have c1 : W.cell? ⟨w.heap.size + 1 + 1, 0, none⟩ = some (.int .i64 st.1) := (blk_cell hfb 0).trans rfl
    have c2 : W.cell? ⟨gb, 1, none⟩ = some (.slice Ap pl.length cp) := (blk_cell f1 1).trans rfl
    have HF := Aside0.mk hF
    have F1 := Aside0.mk f1
    have F2 := Aside0.mk f2
    have F3 := Aside0.mk f3
    have F4 := Aside0.mk f4
    have F5 := Aside0.mk f5
    have g0 : W.cell? ⟨w.heap.size, 0, none⟩ = some (.pointer (some ⟨gb, 0, none⟩)) := (blk_cell hx1 0).trans rfl
    have g1 : W.cell? ⟨w.heap.size + 1, 0, none⟩ = some (.bool false) := (blk_cell f4 0).trans rfl
    have z1 := blk_frozen f4 0
    clear hF hfb hx1 f1 f2 f3 f4 f5
    gi_wp2
    refine (wpIn_wide (n := 0)).2 ?_
    go_region
    obtain ⟨W7, hW7⟩ : ∃ W7, (W.setCell ⟨w.heap.size + 1, 0, none⟩ (.bool (st.1 == (pl.length : Int)))).drew = W7 := ⟨_, rfl⟩
    rw [hW7]
    have n1 : gb ≠ w.heap.size + 1 := by have := HGS.out; omega
    have n2 : w4.heap.size ≠ w.heap.size + 1 := by have := HS4.out; omega
    have f1 : W7.heap[gb]? = some (gcells (.slice An nl.length cn) (.slice Ap pl.length cp) Ag pgs.length cg ov) := by rw [← hW7]; exact blk_drew (blk_far F1.out (p := ⟨w.heap.size + 1, 0, none⟩) n1 _)
    have f2 : Kd.R k51 51 W7 W0.heap.size (fun _ => True) ov st.2 := by rw [← hW7]; exact Kd.R_drew (R_setT F2.out F4.out (by decide) 0 _)
    have f3 : Below W0.heap.size W0 W7 := by rw [← hW7]; exact below_drew1 (F3.out.setCell (p := ⟨w.heap.size + 1, 0, none⟩) (by have := HGS.out; have := HBG.out; show W0.heap.size ≤ w.heap.size + 1; omega) _)
    have f4 : W7.heap[w.heap.size + 1]? = some (.cells #[.bool (st.1 == (pl.length : Int))] 4 (0, 0)) := by rw [← hW7]; exact blk_drew (blk_put F4.out 0 _ rfl)
    have f5 : W7.heap[w4.heap.size]? = some (.deferred (some [])) := by rw [← hW7]; exact (show _ from (Below.heap_setCell W ⟨w.heap.size + 1, 0, none⟩ _ _ n2).trans F5.out)
    have hn : readF pgs pl nl = if st.1 = (pl.length : Int) then some st.2 else none := by unfold readF; rw [HF.out]; rfl
    clear hW7 c1 c2 g0 g1 z1
    gi_wp2
    rw [hn]
    refine ⟨by simp, .inl ⟨_, _, rfl, run_takeDeferred f5, ?_⟩⟩
    have h5 := putObj_cells (o := .deferred none) f5 (fun _ _ _ h => by cases h) f4
    have h1 := putObj_cells (o := .deferred none) f5 (fun _ _ _ h => by cases h) f1
    have h2 := R51_move f2 (W' := W7.putObj w4.heap.size (.deferred none)) (fun k cs hc => putObj_cells f5 (fun _ _ _ h => by cases h) hc)
    have h3 := putObj_below f3 (l := w4.heap.size) (by have := HS4.out; have := HGS.out; have := HBG.out; omega) (.deferred none)
    have c5 : (W7.putObj w4.heap.size (.deferred none)).cell? ⟨w.heap.size + 1, 0, none⟩ = some (.bool (st.1 == (pl.length : Int))) := (blk_cell h5 0).trans rfl
    refine ⟨_, results_cell1 rfl _ _ _ rfl (loadVar_bool c5), ?_, ov, st.2, h1, h2, h3, fun l h => ?_⟩
    · by_cases hq : st.1 = (pl.length : Int)
      · rw [if_pos hq]; simp [hq]
      · rw [if_neg hq]; simp [hq]
    · by_cases hq : st.1 = (pl.length : Int)
      · rw [if_pos hq] at h; exact Option.some.inj h
      · rw [if_neg hq] at h; cases h
  case stop =>
    intro out W hF hfin
    clear hrs hfit
    obtain ⟨ov, f1, f2, f3, f4, f5⟩ := hfin
    dsimp only at f1 f2 f3 f4
    have hn : readF pgs pl nl = none := by unfold readF; rw [hF]; rfl
    rw [hn]
    refine ⟨by simp, .inl ⟨_, _, rfl, run_takeDeferred f5, ?_⟩⟩
    have h5 := putObj_cells (o := .deferred none) f5 (fun _ _ _ h => by cases h) f4
    have h1 := putObj_cells (o := .deferred none) f5 (fun _ _ _ h => by cases h) f1
    have h2 := R51_move f2 (W' := W.putObj w4.heap.size (.deferred none)) (fun k cs hc => putObj_cells f5 (fun _ _ _ h => by cases h) hc)
    have h3 := putObj_below f3 (l := w4.heap.size) (by have := HS4.out; have := HGS.out; have := HBG.out; omega) (.deferred none)
    have c5 : (W.putObj w4.heap.size (.deferred none)).cell? ⟨w.heap.size + 1, 0, none⟩ = some (.bool false) := (blk_cell h5 0).trans rfl
    exact ⟨_, results_cell1 rfl _ _ _ rfl (loadVar_bool c5), rfl, ov, out, h1, h2, h3, fun l h => by cases h⟩
end Go.Proofs.YtbapfjjegbbmfaaGreatDoor.PGatherAlone
