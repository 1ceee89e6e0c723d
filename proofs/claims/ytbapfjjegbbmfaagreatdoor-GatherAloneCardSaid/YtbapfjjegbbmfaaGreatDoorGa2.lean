/-
  One more token is put into the gatherer's row.
-/
import Derived.Test.YtbapfjjegbbmfaaGreatDoorGa1
set_option linter.unusedVariables false
set_option linter.unusedSimpArgs false
namespace Go.Proofs.YtbapfjjegbbmfaaGreatDoor.PGatherAlone
open Go.RowKit Go.Proofs.YtbapfjjegbbmfaaGreatDoorW.PrintWords Go.Proofs.YtbapfjjegbbmfaaGreatDoorW.PrintLast Go.Proofs.YtbapfjjegbbmfaaGreatDoorW.PrintMore

/-- The gatherer's block and what it has gathered. -/
def GS (W0 : World) (B gb : Nat) (nv pv : Value) (Ag : Option Addr) (n cg : Nat) (out : List S51) (W : World) : Prop :=
  ∃ ov, W.heap[gb]? = some (gcells nv pv Ag n cg ov) ∧ Kd.R k51 51 W B (fun _ => True) ov out ∧ Below B W0 W
/-- What a step leaves: whatever is not one of its blocks (X), nor a row of tokens. -/
def Kp (X : Nat → Prop) (W W' : World) : Prop := W.heap.size ≤ W'.heap.size ∧ ∀ (k : Nat) (o : Obj), W.heap[k]? = some o → ¬ X k → (∀ cs, o ≠ .cells cs 51 (0, 0)) → W'.heap[k]? = some o
theorem Kp.refl (X : Nat → Prop) (W : World) : Kp X W W := ⟨Nat.le_refl _, fun _ _ h _ _ => h⟩
theorem Kp.trans {X : Nat → Prop} {A B C : World} (h : Kp X A B) (k : Kp X B C) : Kp X A C := ⟨Nat.le_trans h.1 k.1, fun i o h1 h2 h3 => k.2 i o (h.2 i o h1 h2 h3) h2 h3⟩
theorem Kp.mono {X Y : Nat → Prop} {A B : World} (h : Kp X A B) (hxy : ∀ k, X k → Y k) : Kp Y A B := ⟨h.1, fun i o h1 h2 h3 => h.2 i o h1 (fun q => h2 (hxy _ q)) h3⟩
theorem Kp.below {X : Nat → Prop} {A B : World} (h : Below A.heap.size A B) : Kp X A B := ⟨h.size, fun k _ h1 _ _ => (h.block k (Array.getElem?_eq_some_iff.1 h1).1).trans h1⟩
theorem Kp.grown {X : Nat → Prop} {B : Nat} {W W1 : World} {ov : Value} {out : List S51} (hR : Kd.R k51 51 W B (fun _ => True) ov out) (hg : W.grownBy W1 ov.ownBlock) : Kp X W W1 := by
  refine ⟨hg.size, fun k o h1 _ h3 => ?_⟩
  rw [hg.block k (Array.getElem?_eq_some_iff.1 h1).1 ?_]
  · exact h1
  · intro e
    obtain ⟨inner, ho⟩ := Kd.R_own hR
    obtain ⟨cells, hc⟩ := own_typed ho k e.symm
    rw [hc] at h1
    exact h3 cells (Option.some.inj h1).symm
theorem Kp.set {X : Nat → Prop} (W : World) (p : Addr) (v : Value) (hx : X p.block) : Kp X W (W.setCell p v) := by
  refine ⟨by simp, fun k o h1 h2 _ => ?_⟩
  rw [Below.heap_setCell W p v k (by rintro rfl; exact h2 hx)]; exact h1
theorem Kp.blk {X : Nat → Prop} {W W' : World} (h : Kp X W W') {k : Nat} {o : Obj} (hk : W.heap[k]? = some o) (hx : ¬ X k) (ho : ∀ cs, o ≠ .cells cs 51 (0, 0)) : W'.heap[k]? = some o := h.2 k o hk hx ho
/-- A row of tokens, over what leaves the rows of tokens alone. -/
theorem R51_move {B : Nat} {W W' : World} {v : Value} {out : List S51} (hR : Kd.R k51 51 W B (fun _ => True) v out) (h : ∀ (k : Nat) (cs : Array Value), W.heap[k]? = some (.cells cs 51 (0, 0)) → W'.heap[k]? = some (.cells cs 51 (0, 0))) : Kd.R k51 51 W' B (fun _ => True) v out :=
  Kd.R_mono (Kd.R_step (Kd.R_bound hR) (fun k hk _ => by
    obtain ⟨_, _, _, q, hq, cells, hc⟩ := hk
    have : q = 51 := List.mem_singleton.1 hq
    subst this
    exact (h k cells hc).trans hc.symm)) (fun _ _ => trivial)
theorem GS_put {W0 W : World} {B gb : Nat} {nv pv v ov : Value} {Ag : Option Addr} {n cg : Nat} {out : List S51} (hG : W.heap[gb]? = some (gcells nv pv Ag n cg ov)) (hR : Kd.R k51 51 W B (fun _ => True) v out) (hB : Below B W0 W) (hBg : B ≤ gb) : GS W0 B gb nv pv Ag n cg out (W.setCell ⟨gb, 3, none⟩ v) :=
  ⟨v, blk_put hG 3 v rfl, Kd.R_mono (Kd.R_far (p := ⟨gb, 3, none⟩) (Kd.R_types hR hG (by decide)) (fun _ hk => hk.2) v) (fun _ _ => trivial), hB.setCell hBg _⟩
theorem GS.size {W0 W : World} {B gb : Nat} {nv pv : Value} {Ag : Option Addr} {n cg : Nat} {out : List S51} (h : GS W0 B gb nv pv Ag n cg out W) : gb < W.heap.size := by
  obtain ⟨ov, h1, _⟩ := h; exact (Array.getElem?_eq_some_iff.1 h1).1

def put92.T0 : Bool × List (List Nat × List Nat) := (true, [([], []), ([], []), ([1], [1]), ([2], [2]), ([3], [3]), ([], []), ([5], [5]), ([6], [6]), ([4, 7], [4, 7]), ([0, 0, 1, 2, 3, 4, 5, 6, 7, 8], [0]), ([9, 0, 1, 2, 3, 4, 5, 6, 7, 8], [9]), ([10, 8, 8, 0, 1, 2, 3, 4, 5, 6, 7, 8], [8, 10])])
def put92.B0 : List Nat := [0, 0, 2, 6, 14, 0, 32, 96, 254, 511, 1023, 2047]
theorem put92.tab0 : rtab .any (opsOf Tryz.f92 0) = put92.T0 := by kernel_rfl
theorem put92.bits0 : waitsOk put92.T0.2 put92.B0 = true := by kernel_rfl
set_option maxRecDepth 100000 in
set_option maxHeartbeats 8000000 in
theorem put_calls (W0 : World) (B gb bx : Nat) (nv pv : Value) (Ag : Option Addr) (n cg : Nat) (out : List S51) (c : Int) (w : World) (hS : GS W0 B gb nv pv Ag n cg out w) (hBg : B ≤ gb) (hx : w.heap[bx]? = some (.cells #[.pointer (some ⟨gb, 0, none⟩)] 61 (0, 0))) (hl : out.length ≤ 1000000) :
    Calls Tryz.prog 92 #[.int .u8 c, .pointer (some ⟨bx, 0, none⟩)] w fun e w' => e = .returned (.tuple #[]) ∧ GS W0 B gb nv pv Ag n cg (out ++ [⟨1, c, 0⟩]) w' ∧ Kp (· = gb) w w' := by
  have hu63 := Tryz.underlying63
  have hu51 := Tryz.underlying51
  obtain ⟨ov, hG, hR, hB0⟩ := hS
  have hX := hx
  have hgl := (Array.getElem?_eq_some_iff.1 hG).1
  have hne : bx ≠ gb := by rintro rfl; rw [hG] at hx; simp [gcells] at hx
  have x0 : w.cell? ⟨bx, 0, none⟩ = some (.pointer (some ⟨gb, 0, none⟩)) := (blk_cell hX 0).trans rfl
  have x1 : w.cell? ⟨gb, 3, none⟩ = some ov := (blk_cell hG 3).trans rfl
  clear hx
  go_enter Tryz.func92, Tryz.ntmps92
  refine start_ (n := 12) (S := fun w' => w'.cell? ⟨bx, 0, none⟩ = some (.pointer (some ⟨gb, 0, none⟩)) ∧ w'.cell? ⟨gb, 3, none⟩ = some ov) (ds := [11]) #[false, false, false, false, false, false, false, false, false, false, false, false] (by kernel_rfl) rfl rfl ⟨x0, x1⟩ (fun hHeld => ?_)
  refine with_tabW put92.tab0 put92.bits0 (fun HT_ HW_ => ?_)
  replace hX : w.drew.heap[bx]? = _ := blk_drew hX
  replace hG : w.drew.heap[gb]? = _ := blk_drew hG
  replace hR := Kd.R_drew hR
  replace hB0 : Below B W0 w.drew := below_drew1 hB0
  have hK0 : Kp (· = gb) w w.drew := Kp.below (below_drew1 (Below.refl _ _))
  have hg5 : gb < w.drew.heap.size := hgl
  clear hgl
  generalize w.drew = w5 at hX hG hR hB0 hK0 hg5 x0 x1 hHeld ⊢
  refine take_ (i := 0) (N := some 3) (v := ?_) (a' := ?_) #[true, false, false, false, false, false, false, false, false, false, false, false] rfl rfl (take_ofW HT_.out HW_.out (by kernel_rfl)) (fun _ _ _ h => h) (Or.inl ⟨by rfl, ?_⟩) hHeld ?_ ?_
  rotate_left
  · rintro w' ⟨s0, s1⟩
    go_simp
    with_reducible rfl
  rotate_left
  · simp only [Act.put, List.setIfInBounds_toArray, List.set_cons_zero, List.set_cons_succ, i64_w, i32_w]
    rfl
  refine take_ (i := 1) (N := some 4) (v := ?_) (a' := ?_) #[true, true, false, false, false, false, false, false, false, false, false, false] rfl rfl (take_ofW HT_.out HW_.out (by kernel_rfl)) (fun _ _ _ h => h) (Or.inl ⟨by rfl, ?_⟩) hHeld ?_ ?_
  rotate_left
  · rintro w' ⟨s0, s1⟩
    go_simp
    with_reducible rfl
  rotate_left
  · simp only [Act.put, List.setIfInBounds_toArray, List.set_cons_zero, List.set_cons_succ, i64_w, i32_w]
    rfl
  refine pure_ (i := 2) (N := some 5) (v := ?_) (a' := ?_) #[true, true, true, false, false, false, false, false, false, false, false, false] rfl rfl (any_of HT_.out (by kernel_rfl)) (fun _ _ _ h => h) (Or.inl ⟨by rfl, ?_⟩) ?_ ?_
  rotate_left
  · intro w'
    go_simp
    with_reducible rfl
  rotate_left
  · simp only [Act.put, List.setIfInBounds_toArray, List.set_cons_zero, List.set_cons_succ, i64_w, i32_w]
    rfl
  refine pure_ (i := 3) (N := some 6) (v := ?_) (a' := ?_) #[true, true, true, true, false, false, false, false, false, false, false, false] rfl rfl (any_of HT_.out (by kernel_rfl)) (fun _ _ _ h => h) (Or.inl ⟨by rfl, ?_⟩) ?_ ?_
  rotate_left
  · intro w'
    go_simp
    with_reducible rfl
  rotate_left
  · simp only [Act.put, List.setIfInBounds_toArray, List.set_cons_zero, List.set_cons_succ, i64_w, i32_w]
    rfl
  refine take_ (i := 4) (N := some 7) (v := ?_) (a' := ?_) #[true, true, true, true, true, false, false, false, false, false, false, false] rfl rfl (take_ofW HT_.out HW_.out (by kernel_rfl)) (fun _ _ _ h => h) (Or.inl ⟨by rfl, ?_⟩) hHeld ?_ ?_
  rotate_left
  · rintro w' ⟨s0, s1⟩
    go_simp
    with_reducible rfl
  rotate_left
  · simp only [Act.put, List.setIfInBounds_toArray, List.set_cons_zero, List.set_cons_succ, i64_w, i32_w]
    rfl
  refine pure_ (i := 5) (N := some 8) (v := ?_) (a' := ?_) #[true, true, true, true, true, true, false, false, false, false, false, false] rfl rfl (any_of HT_.out (by kernel_rfl)) (fun _ _ _ h => h) (Or.inl ⟨by rfl, ?_⟩) ?_ ?_
  rotate_left
  · intro w'
    go_simp
    with_reducible rfl
  rotate_left
  · simp only [Act.put, List.setIfInBounds_toArray, List.set_cons_zero, List.set_cons_succ, i64_w, i32_w]
    rfl
  refine pure_ (i := 6) (N := some 9) (v := ?_) (a' := ?_) #[true, true, true, true, true, true, true, false, false, false, false, false] rfl rfl (any_of HT_.out (by kernel_rfl)) (fun _ _ _ h => h) (Or.inl ⟨by rfl, ?_⟩) ?_ ?_
  rotate_left
  · intro w'
    go_simp
    with_reducible rfl
  rotate_left
  · simp only [Act.put, List.setIfInBounds_toArray, List.set_cons_zero, List.set_cons_succ, i64_w, i32_w]
    rfl
  have e51 : (w5.alloc (.cells #[.int .i64 1, .int .u8 c, .int .i64 0] 51)).heap.size = w5.heap.size + 1 := by simp
  refine one_ (i := 7) (N := some 10) #[true, true, true, true, true, true, true, true, false, false, false, false] rfl rfl (one_of HT_.out (by kernel_rfl)) (by decide) (fun K hK => ?_)
  refine value_ (w1 := ?_) (v := ?_) (by rfl) rfl ?_ ?_
  rotate_left 2
  · go_simp
    constructor
    · rfl
    · rfl
  refine hK.out _ _ ⟨(blk_cell (blk_alloc hX _) 0).trans rfl, (blk_cell (blk_alloc hG _) 3).trans rfl⟩ (fun hHeld => ?_)
  clear hK K
  refine norm_ (a' := ?_) ?_ ?_
  rotate_left
  · show Act.put _ (some 10) _ = _
    simp only [Act.put, List.setIfInBounds_toArray, List.set_cons_zero, List.set_cons_succ, i64_w, i32_w]
    rfl
  refine one_ (i := 8) (N := some 11) #[true, true, true, true, true, true, true, true, true, false, false, false] rfl rfl (one_of HT_.out (by kernel_rfl)) (by decide) (fun K hK => ?_)
  refine Kd.R_append_step k51 (w0 := W0) B (by rfl) (.tmp 7) (.tmp 10) 22 51 (.agg #[.int .i64 0, .int .u8 0, .int .i64 0]) 24 rfl Tryz.underlying22 info51 rfl (by decide) (by omega) ov out (⟨1, c, 0⟩ : S51) [.int .i64 1, .int .u8 c, .int .i64 0] (fun _ => True) (fun _ => False) rfl rfl ?aP (fun _ hk => hk.elim) ?aF ?aO ?aB ?aS ?aL ?_
  (case aP => exact k51_mkM _ _ _ (⟨1, c, 0⟩ : S51))
  (case aB => exact hB0)
  (case aF => exact (fun _ _ => trivial))
  (case aO => exact hR)
  (case aS => exact (by omega))
  (case aL => omega)
  intro v1 w1 ho hb hg hat
  have hK1 := Kp.grown (X := (· = gb)) hR hg
  have hX1 := hK1.2 bx _ hX hne (fun cs h => by cases h)
  have hG1 := blk_grown (g := gb) hG hg (Kd.R_ne hR hG (by decide))
  refine hK.out _ _ ⟨(blk_cell hX1 0).trans rfl, (blk_cell hG1 3).trans rfl⟩ (fun hHeld => ?_)
  clear hK K
  refine norm_ (a' := ?_) ?_ ?_
  rotate_left
  · show Act.put _ (some 11) _ = _
    simp only [Act.put, List.setIfInBounds_toArray, List.set_cons_zero, List.set_cons_succ, i64_w, i32_w]
    rfl
  refine pure_ (i := 9) (N := some 12) (v := ?_) (a' := ?_) #[true, true, true, true, true, true, true, true, true, true, false, false] rfl rfl (any_of HT_.out (by kernel_rfl)) (fun _ _ _ h => h) (Or.inl ⟨by rfl, ?_⟩) ?_ ?_
  rotate_left
  · intro w'
    go_simp
    with_reducible rfl
  rotate_left
  · simp only [Act.put, List.setIfInBounds_toArray, List.set_cons_zero, List.set_cons_succ, i64_w, i32_w]
    rfl
  refine pure_ (i := 10) (N := some 13) (v := ?_) (a' := ?_) #[true, true, true, true, true, true, true, true, true, true, true, false] rfl rfl (any_of HT_.out (by kernel_rfl)) (fun _ _ _ h => h) (Or.inl ⟨by rfl, ?_⟩) ?_ ?_
  rotate_left
  · intro w'
    go_simp
    with_reducible rfl
  rotate_left
  · simp only [Act.put, List.setIfInBounds_toArray, List.set_cons_zero, List.set_cons_succ, i64_w, i32_w]
    rfl
  refine last_ (i := 11) (N := none) #[true, true, true, true, true, true, true, true, true, true, true, true] rfl rfl (one_of HT_.out (by kernel_rfl)) (by decide) (fun K hK => ?_)
  have hs12 : w1.cell? ⟨gb, 3, none⟩ = some ov := (blk_cell hG1 3).trans rfl
  have hfs12 := blk_frozen hG1 3
  obtain ⟨Ao, co, eo⟩ := Kd.R_slice ho
  subst eo
  refine skip_ (w1 := ?_) (by rfl) rfl ?_ ?_
  rotate_left
  · go_simp
    rfl
  refine hK.out _ _ ?_
  clear hK K
  refine done_ (done_of HT_.out (by kernel_rfl)) ?_
  go_end0
  have ho2 : Kd.R k51 51 w1 B (fun _ => True) (.slice Ao (out.length + 1) co) (out ++ [⟨1, c, 0⟩]) := by simpa only [List.length_append, List.length_cons, List.length_nil] using ho
  exact ⟨rfl, GS_put hG1 ho2 hb hBg, (hK0.trans hK1).trans (Kp.set _ ⟨gb, 3, none⟩ _ rfl)⟩
end Go.Proofs.YtbapfjjegbbmfaaGreatDoor.PGatherAlone
