/-
  The line of a place: what the gatherer's method answers, by its code.
-/
import Derived.Test.YtbapfjjegbbmfaaGreatDoorGk
import Derived.DeepKeys5
import Derived.OpenShut
set_option linter.unusedVariables false
set_option linter.unusedSimpArgs false
namespace Go.Proofs.YtbapfjjegbbmfaaGreatDoor.PGatherAlone
open Go.RowKit Go.Proofs.YtbapfjjegbbmfaaGreatDoorW.PrintWords Go.Proofs.YtbapfjjegbbmfaaGreatDoorW.PrintLast Go.Proofs.YtbapfjjegbbmfaaGreatDoorW.PrintMore

def val33 (x : S33) : Value := .agg #[.int .i64 x.f0, .int .i64 x.f1, .int .i64 x.f2]
def wf33 (x : S33) : Prop := (Lit.int .i64 x.f0).wf = true ∧ (Lit.int .i64 x.f1).wf = true ∧ (Lit.int .i64 x.f2).wf = true
/-- The line of a place. -/
def look (pgs : List S43) (x : S33) : Option S56 :=
  if x.f0 < 1 ∨ (pgs.length : Int) < x.f0 ∨ x.f1 < 0 then none
  else if x.f1 < ((rd_T43 pgs (x.f0 - 1)).f0.length : Int) then some (rd_T56 (rd_T43 pgs (x.f0 - 1)).f0 x.f1)
  else if x.f1 - (rd_T43 pgs (x.f0 - 1)).f0.length < ((rd_T43 pgs (x.f0 - 1)).f1.length : Int) then some (rd_T56 (rd_T43 pgs (x.f0 - 1)).f1 (x.f1 - (rd_T43 pgs (x.f0 - 1)).f0.length))
  else none
/-- The cells of a gatherer. -/
def gcells (nv pv : Value) (Ag : Option Addr) (n cg : Nat) (ov : Value) : Obj := .cells #[nv, pv, .slice Ag n cg, ov] 63 (0, 0)
theorem blk_below {w3 W : World} {g : Nat} {o : Obj} (h : w3.heap[g]? = some o) (hb : Below w3.heap.size w3 W) : W.heap[g]? = some o := (hb.block g (Array.getElem?_eq_some_iff.1 h).1).trans h
theorem two_alloc (w : World) (o1 o2 : Obj) : Below w.heap.size w ((w.alloc o1).alloc o2) := below_alloc (below_alloc (Below.refl _ _) _) _
def LineR (w : World) (pgs : List S43) (x : S33) (e : Ending) : Prop := (look pgs x = none ∧ e = .returned (.tuple #[.agg #[.slice none 0 0, .int .i64 0, .int .i64 0], .bool false])) ∨
      ∃ l A c, look pgs x = some l ∧ e = .returned (.tuple #[.agg #[.slice A l.f0.length c, .int .i64 l.f1, .int .i64 l.f2], .bool true]) ∧ l.f0.length ≤ c ∧ Kd.C k60 w A l.f0.length l.f0
set_option maxRecDepth 100000 in
set_option maxHeartbeats 8000000 in
theorem line_calls (gb : Nat) (nv pv ov : Value) (pgs : List S43) (Ag : Option Addr) (cg : Nat) (x : S33) (w : World) (hx : wf33 x) (hg : w.heap[gb]? = some (gcells nv pv Ag pgs.length cg ov)) (hp : Kd.C k43 w Ag pgs.length pgs) :
    Calls Tryz.prog 91 #[.pointer (some ⟨gb, 0, none⟩), val33 x] w fun e w' => Below w.heap.size w w' ∧ LineR w pgs x e := by
  have hu33 := Tryz.underlying33
  have hu56 := Tryz.underlying56
  have hu43 := Tryz.underlying43
  have hu63 := Tryz.underlying63
  obtain ⟨x0, x1, x2⟩ := x
  have HX := Aside0.mk hx
  have HG := Aside0.mk hg
  have HP := Aside0.mk hp
  clear hx hg hp
  have hB := Aside0.mk (Below.refl w.heap.size w)
  simp only [val33]
  go_enter Tryz.func91, Tryz.ntmps91
  go_wp2
  have hW := Aside0.mk (two_alloc w (.cells #[.int .i64 x0, .int .i64 x1, .int .i64 x2] 33) (.cells #[.slice none 0 0, .int .i64 0, .int .i64 0] 56))
  have g2 : ((w.alloc (.cells #[.int .i64 x0, .int .i64 x1, .int .i64 x2] 33)).alloc (.cells #[.slice none 0 0, .int .i64 0, .int .i64 0] 56)).cell? ⟨gb, 2, none⟩ = some (.slice Ag pgs.length cg) := (blk_cell (blk_below HG.out hW.out) 2).trans rfl
  by_cases h1 : x0 < 1
  · have e : look pgs ⟨x0, x1, x2⟩ = none := by unfold look; rw [if_pos (.inl h1)]
    have E := Aside0.mk e
    clear e
    have b1 := decide_eq_true h1
    clear h1
    repeat (go_quiet (fail); try go_wp2)
    refine bodyPost_ret (v := .tuple #[.agg #[.slice none 0 0, .int .i64 0, .int .i64 0], .bool false]) ?_ rfl ?_
    · rw [results_cell_tmp rfl]
      go_simp
    · exact ⟨by repeat (first | (with_reducible exact hW.out) | (with_reducible refine below_set ?_ (by omega)) | (with_reducible apply pw_below_drewN) | (with_reducible apply below_drew1) | (with_reducible apply below_alloc)), .inl ⟨E.out, rfl⟩⟩
  have H1 := Aside0.mk h1
  have b1 := decide_eq_false h1
  clear h1
  by_cases h2 : (pgs.length : Int) < x0
  · have e : look pgs ⟨x0, x1, x2⟩ = none := by unfold look; rw [if_pos (.inr (.inl h2))]
    have E := Aside0.mk e
    clear e
    have b2 := decide_eq_true h2
    clear h2
    repeat (go_quiet (fail); try go_wp2)
    refine bodyPost_ret (v := .tuple #[.agg #[.slice none 0 0, .int .i64 0, .int .i64 0], .bool false]) ?_ rfl ?_
    · rw [results_cell_tmp rfl]
      go_simp
    · exact ⟨by repeat (first | (with_reducible exact hW.out) | (with_reducible refine below_set ?_ (by omega)) | (with_reducible apply pw_below_drewN) | (with_reducible apply below_drew1) | (with_reducible apply below_alloc)), .inl ⟨E.out, rfl⟩⟩
  have H2 := Aside0.mk h2
  have b2 := decide_eq_false h2
  clear h2
  by_cases h3 : x1 < 0
  · have e : look pgs ⟨x0, x1, x2⟩ = none := by unfold look; rw [if_pos (.inr (.inr h3))]
    have E := Aside0.mk e
    clear e
    have b3 := decide_eq_true h3
    clear h3
    repeat (go_quiet (fail); try go_wp2)
    refine bodyPost_ret (v := .tuple #[.agg #[.slice none 0 0, .int .i64 0, .int .i64 0], .bool false]) ?_ rfl ?_
    · rw [results_cell_tmp rfl]
      go_simp
    · exact ⟨by repeat (first | (with_reducible exact hW.out) | (with_reducible refine below_set ?_ (by omega)) | (with_reducible apply pw_below_drewN) | (with_reducible apply below_drew1) | (with_reducible apply below_alloc)), .inl ⟨E.out, rfl⟩⟩
  have H3 := Aside0.mk h3
  have b3 := decide_eq_false h3
  clear h3
  repeat (go_quiet (fail); try go_wp2)
  obtain ⟨q, rfl⟩ : ∃ q : Nat, x0 = (q : Int) + 1 := ⟨(x0 - 1).toNat, by have := H1.out; omega⟩
  have eq1 : (q : Int) + 1 - 1 = q := by omega
  have hql : q < pgs.length := by have := H2.out; omega
  obtain ⟨ad, A0, c0, A1, c1, e0, hq0, hq1, l0, k0, l1, k1⟩ := at_T43 HP.out (q : Int) (by omega) (by omega)
  subst e0
  simp only [Int.toNat_natCast] at hq0 hq1
  obtain ⟨pg, hpg⟩ : ∃ pg, pg = rd_T43 pgs (q : Int) := ⟨_, rfl⟩
  rw [← hpg] at hq0 hq1 l0 k0 l1 k1
  have HPG := Aside0.mk hpg
  clear hpg
  replace hq0 := (hW.out.cell (World.block_lt_of_cell? w _ hq0)).trans hq0
  replace hq1 := (hW.out.cell (World.block_lt_of_cell? w _ hq1)).trans hq1
  have eqw : wrap64 (q : Int) = q := by
    have := HP.out.2.1
    unfold wrap64; omega
  have K33 : ((w.alloc (.cells #[.int .i64 ((q : Int) + 1), .int .i64 x1, .int .i64 x2] 33)).alloc (.cells #[.slice none 0 0, .int .i64 0, .int .i64 0] 56)).heap[w.heap.size]? = some (.cells #[.int .i64 ((q : Int) + 1), .int .i64 x1, .int .i64 x2] 33 (0, 0)) := by
    rw [(below_alloc (Below.refl _ _) _).block _ (by simp)]; exact (MapKept.heap_alloc w _).1
  have K56 : ((w.alloc (.cells #[.int .i64 ((q : Int) + 1), .int .i64 x1, .int .i64 x2] 33)).alloc (.cells #[.slice none 0 0, .int .i64 0, .int .i64 0] 56)).heap[w.heap.size + 1]? = some (.cells #[.slice none 0 0, .int .i64 0, .int .i64 0] 56 (0, 0)) := by
    have := (MapKept.heap_alloc (w.alloc (.cells #[.int .i64 ((q : Int) + 1), .int .i64 x1, .int .i64 x2] 33)) (.cells #[.slice none 0 0, .int .i64 0, .int .i64 0] 56)).1
    simpa using this
  replace K33 := blk_drewN K33 nq
  replace K56 := blk_drewN K56 nq
  replace g2 := (show _ from g2 : (((w.alloc (.cells #[.int .i64 ((q : Int) + 1), .int .i64 x1, .int .i64 x2] 33)).alloc (.cells #[.slice none 0 0, .int .i64 0, .int .i64 0] 56)).drewN nq).cell? ⟨gb, 2, none⟩ = some (.slice (some ad) pgs.length cg))
  have hW1 := pw_below_drewN hW.out nq
  replace hq0 := (show _ from hq0 : (((w.alloc (.cells #[.int .i64 ((q : Int) + 1), .int .i64 x1, .int .i64 x2] 33)).alloc (.cells #[.slice none 0 0, .int .i64 0, .int .i64 0] 56)).drewN nq).cell? _ = _)
  replace hq1 := (show _ from hq1 : (((w.alloc (.cells #[.int .i64 ((q : Int) + 1), .int .i64 x1, .int .i64 x2] 33)).alloc (.cells #[.slice none 0 0, .int .i64 0, .int .i64 0] 56)).drewN nq).cell? _ = _)
  clear hW
  generalize (((w.alloc (.cells #[.int .i64 ((q : Int) + 1), .int .i64 x1, .int .i64 x2] 33)).alloc (.cells #[.slice none 0 0, .int .i64 0, .int .i64 0] 56)).drewN nq) = W1 at *
  have k330 : W1.cell? ⟨w.heap.size, 0, none⟩ = some (.int .i64 ((q : Int) + 1)) := (blk_cell K33 0).trans rfl
  have al := fun (a : Addr) (v : Value) (h : W1.cell? a = some v) => (((below_alloc (Below.refl _ _) (.cells #[.slice none 0 0, .slice none 0 0] 43)).cell (World.block_lt_of_cell? W1 _ h)).trans h : (W1.alloc (.cells #[.slice none 0 0, .slice none 0 0] 43)).cell? a = some v)
  have r0 := al _ _ k330
  have r1 := al _ _ g2
  have r2 := al _ _ hq0
  have r3 := al _ _ hq1
  have AL := Aside0.mk al
  clear al
  go_region
  have n1 : Below w.heap.size w (W1.alloc (.cells #[.slice A0 pg.f0.length c0, .slice A1 pg.f1.length c1] 43)).drew := below_drew1 (below_alloc hW1 _)
  have K33b : (W1.alloc (.cells #[.slice A0 pg.f0.length c0, .slice A1 pg.f1.length c1] 43)).drew.heap[w.heap.size]? = some (.cells #[.int .i64 ((q : Int) + 1), .int .i64 x1, .int .i64 x2] 33 (0, 0)) := blk_drew (blk_alloc K33 _)
  have K56b : (W1.alloc (.cells #[.slice A0 pg.f0.length c0, .slice A1 pg.f1.length c1] 43)).drew.heap[w.heap.size + 1]? = some (.cells #[.slice none 0 0, .int .i64 0, .int .i64 0] 56 (0, 0)) := blk_drew (blk_alloc K56 _)
  have K43b : (W1.alloc (.cells #[.slice A0 pg.f0.length c0, .slice A1 pg.f1.length c1] 43)).drew.heap[W1.heap.size]? = some (.cells #[.slice A0 pg.f0.length c0, .slice A1 pg.f1.length c1] 43 (0, 0)) := blk_drew (blk_new W1 _)
  generalize (W1.alloc (.cells #[.slice A0 pg.f0.length c0, .slice A1 pg.f1.length c1] 43)).drew = W2 at n1 K33b K56b K43b ⊢
  clear r0 r1 r2 r3 AL K33 K56 g2 hq0 hq1 k330
  have i1 : W2.cell? ⟨w.heap.size, 1, none⟩ = some (.int .i64 x1) := (blk_cell K33b 1).trans rfl
  have p0 : W2.cell? ⟨W1.heap.size, 0, none⟩ = some (.slice A0 pg.f0.length c0) := (blk_cell K43b 0).trans rfl
  have p1 : W2.cell? ⟨W1.heap.size, 1, none⟩ = some (.slice A1 pg.f1.length c1) := (blk_cell K43b 1).trans rfl
  have z0 : W2.cell? ⟨w.heap.size + 1, 0, none⟩ = some (.slice none 0 0) := (blk_cell K56b 0).trans rfl
  have z1 : W2.cell? ⟨w.heap.size + 1, 1, none⟩ = some (.int .i64 0) := (blk_cell K56b 1).trans rfl
  have z2 : W2.cell? ⟨w.heap.size + 1, 2, none⟩ = some (.int .i64 0) := (blk_cell K56b 2).trans rfl
  have fz0 := blk_frozen K56b 0; have fz1 := blk_frozen K56b 1; have fz2 := blk_frozen K56b 2
  by_cases hb : x1 < (pg.f0.length : Int)
  · have e : look pgs ⟨(q : Int) + 1, x1, x2⟩ = some (rd_T56 pg.f0 x1) := by
      unfold look
      simp only [eq1, ← HPG.out]
      rw [if_neg (by have := H1.out; have := H2.out; have := H3.out; omega), if_pos hb]
    have E := Aside0.mk e
    clear e
    obtain ⟨ae, Ae, ce, ee, he0, he1, he2, le, ke⟩ := at_T56 k0 x1 (by have := H3.out; omega) hb
    subst ee
    replace he0 := (n1.cell (World.block_lt_of_cell? w _ he0)).trans he0
    replace he1 := (n1.cell (World.block_lt_of_cell? w _ he1)).trans he1
    replace he2 := (n1.cell (World.block_lt_of_cell? w _ he2)).trans he2
    have h30 : 0 ≤ x1 := by have := H3.out; omega
    go_wp2
    refine bodyPost_ret (v := .tuple #[.agg #[.slice Ae (rd_T56 pg.f0 x1).f0.length ce, .int .i64 (rd_T56 pg.f0 x1).f1, .int .i64 (rd_T56 pg.f0 x1).f2], .bool true]) ?_ rfl ?_
    · rw [results_cell_tmp rfl]
      go_simp
    · exact ⟨by repeat (first | (with_reducible exact n1) | (with_reducible refine below_set ?_ (by simp)) | (with_reducible apply pw_below_drewN) | (with_reducible apply below_drew1) | (with_reducible apply below_alloc)), .inr ⟨_, _, _, E.out, rfl, le, ke⟩⟩
  obtain ⟨j, rfl⟩ : ∃ j : Nat, x1 = (pg.f0.length : Int) + j := ⟨(x1 - pg.f0.length).toNat, by omega⟩
  have ej : (pg.f0.length : Int) + j - pg.f0.length = j := by omega
  have ewj : wrap64 (j : Int) = j := by
    have hbd : -9223372036854775808 ≤ (pg.f0.length : Int) + j ∧ (pg.f0.length : Int) + j ≤ 9223372036854775807 := bounds_i64 HX.out.2.1
    unfold wrap64; omega
  have EJ := Aside0.mk ej
  by_cases hc : (j : Int) < (pg.f1.length : Int)
  · have e : look pgs ⟨(q : Int) + 1, (pg.f0.length : Int) + j, x2⟩ = some (rd_T56 pg.f1 (j : Int)) := by
      unfold look
      simp only [eq1, ← HPG.out, EJ.out]
      rw [if_neg (by have := H1.out; have := H2.out; have := H3.out; omega), if_neg hb, if_pos hc]
    have E := Aside0.mk e
    clear e
    obtain ⟨ae, Ae, ce, ee, he0, he1, he2, le, ke⟩ := at_T56 k1 (j : Int) (by omega) hc
    subst ee
    replace he0 := (n1.cell (World.block_lt_of_cell? w _ he0)).trans he0
    replace he1 := (n1.cell (World.block_lt_of_cell? w _ he1)).trans he1
    replace he2 := (n1.cell (World.block_lt_of_cell? w _ he2)).trans he2
    simp only [Int.toNat_natCast] at he0 he1 he2
    go_wp2
    refine bodyPost_ret (v := .tuple #[.agg #[.slice Ae (rd_T56 pg.f1 (j : Int)).f0.length ce, .int .i64 (rd_T56 pg.f1 (j : Int)).f1, .int .i64 (rd_T56 pg.f1 (j : Int)).f2], .bool true]) ?_ rfl ?_
    · rw [results_cell_tmp rfl]
      go_simp
    · exact ⟨by repeat (first | (with_reducible exact n1) | (with_reducible refine below_set ?_ (by simp)) | (with_reducible apply pw_below_drewN) | (with_reducible apply below_drew1) | (with_reducible apply below_alloc)), .inr ⟨_, _, _, E.out, rfl, le, ke⟩⟩
  · have e : look pgs ⟨(q : Int) + 1, (pg.f0.length : Int) + j, x2⟩ = none := by
      unfold look
      simp only [eq1, ← HPG.out, EJ.out]
      rw [if_neg (by have := H1.out; have := H2.out; have := H3.out; omega), if_neg hb, if_neg hc]
    have E := Aside0.mk e
    clear e
    go_wp2
    refine bodyPost_ret (v := .tuple #[.agg #[.slice none 0 0, .int .i64 0, .int .i64 0], .bool false]) ?_ rfl ?_
    · rw [results_cell_tmp rfl]
      go_simp
    · exact ⟨by repeat (first | (with_reducible exact n1) | (with_reducible refine below_set ?_ (by simp)) | (with_reducible apply pw_below_drewN) | (with_reducible apply below_drew1) | (with_reducible apply below_alloc)), .inl ⟨E.out, rfl⟩⟩
end Go.Proofs.YtbapfjjegbbmfaaGreatDoor.PGatherAlone
