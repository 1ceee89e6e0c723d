/-
  What stands at a place is taken, or nothing is.
-/
import Derived.Test.YtbapfjjegbbmfaaGreatDoorGa2
set_option linter.unusedVariables false
set_option linter.unusedSimpArgs false
namespace Go.Proofs.YtbapfjjegbbmfaaGreatDoor.PGatherAlone
open Go.RowKit Go.Proofs.YtbapfjjegbbmfaaGreatDoorW.PrintWords Go.Proofs.YtbapfjjegbbmfaaGreatDoorW.PrintLast Go.Proofs.YtbapfjjegbbmfaaGreatDoorW.PrintMore

/-- What stands at a place: none: nothing that may be taken. -/
def tk (pgs : List S43) (x : S33) : Option (List S51) :=
  match look pgs x with
  | none => none
  | some l => if x.f2 < 0 then none else if (l.f0.length : Int) < x.f2 then none else if x.f2 = (l.f0.length : Int) then some [⟨1, 32, 0⟩]
    else if (rd_T60 l.f0 x.f2).f2 = 2 then none else if (rd_T60 l.f0 x.f2).f2 = 1 then some [] else some [⟨1, (rd_T60 l.f0 x.f2).f1, 0⟩]
def TakeR (W0 : World) (gb : Nat) (nv pv : Value) (Ag : Option Addr) (n cg : Nat) (out : List S51) (w : World) (r : Option (List S51)) (e : Ending) (w' : World) : Prop :=
  e = .returned (.bool r.isSome) ∧ GS W0 W0.heap.size gb nv pv Ag n cg (out ++ r.getD []) w' ∧ Kp (· = gb) w w'
theorem GS.below {W0 W W' : World} {B gb : Nat} {nv pv : Value} {Ag : Option Addr} {n cg : Nat} {out : List S51} (h : GS W0 B gb nv pv Ag n cg out W) (hb : Below W.heap.size W W') (hB : B ≤ W.heap.size) : GS W0 B gb nv pv Ag n cg out W' := by
  obtain ⟨ov, h1, h2, h3⟩ := h
  exact ⟨ov, blk_below h1 hb, Kd.R_below h2 hb, h3.trans (hb.mono hB)⟩
theorem LineR.uniform {w : World} {pgs : List S43} {x : S33} {e : Ending} (h : LineR w pgs x e) : ∃ (l : S56) (A : Option Addr) (c : Nat) (b : Bool), e = .returned (.tuple #[.agg #[.slice A l.f0.length c, .int .i64 l.f1, .int .i64 l.f2], .bool b]) ∧ l.f0.length ≤ c ∧ Kd.C k60 w A l.f0.length l.f0 ∧ look pgs x = (if b = true then some l else none) := by
  rcases h with ⟨h1, rfl⟩ | ⟨l, A, c, h1, rfl, h2, h3⟩
  · exact ⟨⟨[], 0, 0⟩, none, 0, false, rfl, Nat.le_refl _, Kd.C_nil _ _, h1⟩
  · exact ⟨l, A, c, true, rfl, h2, h3, h1⟩
set_option maxRecDepth 100000 in
set_option maxHeartbeats 8000000 in
theorem take_calls (W0 : World) (gb : Nat) (nv pv : Value) (Ag : Option Addr) (cg : Nat) (pgs : List S43) (out : List S51) (x : S33) (w : World) (hx : wf33 x) (hp : Kd.C k43 W0 Ag pgs.length pgs)
    (hS : GS W0 W0.heap.size gb nv pv Ag pgs.length cg out w) (hBg : W0.heap.size ≤ gb) (hl : out.length ≤ 1000000) :
    Calls Tryz.prog 55 #[.pointer (some ⟨gb, 0, none⟩), val33 x] w fun e w' => TakeR W0 gb nv pv Ag pgs.length cg out w (tk pgs x) e w' := by
  have hu33 := Tryz.underlying33
  have hu56 := Tryz.underlying56
  have hu60 := Tryz.underlying60
  obtain ⟨x0, x1, x2⟩ := x
  have HX := Aside0.mk hx
  have HP := Aside0.mk hp
  have HS := Aside0.mk hS
  have HB := Aside0.mk hBg
  clear hx hp hS hBg
  simp only [val33]
  go_enter Tryz.func55, Tryz.ntmps55
  have hba := two_alloc w (.cells #[.pointer (some ⟨gb, 0, none⟩)] 61) (.cells #[.int .i64 x0, .int .i64 x1, .int .i64 x2] 33)
  have ka2 : ((w.alloc (.cells #[.pointer (some ⟨gb, 0, none⟩)] 61)).alloc (.cells #[.int .i64 x0, .int .i64 x1, .int .i64 x2] 33)).heap[w.heap.size]? = some (.cells #[.pointer (some ⟨gb, 0, none⟩)] 61 (0, 0)) := blk_alloc (blk_new w _) _
  have ka3 : ((w.alloc (.cells #[.pointer (some ⟨gb, 0, none⟩)] 61)).alloc (.cells #[.int .i64 x0, .int .i64 x1, .int .i64 x2] 33)).heap[w.heap.size + 1]? = some (.cells #[.int .i64 x0, .int .i64 x1, .int .i64 x2] 33 (0, 0)) := by
    have := blk_new (w.alloc (.cells #[.pointer (some ⟨gb, 0, none⟩)] 61)) (.cells #[.int .i64 x0, .int .i64 x1, .int .i64 x2] 33); simpa using this
  have hgs : gb < w.heap.size := HS.out.size
  have hSa := HS.out.below hba (Nat.le_trans HB.out (Nat.le_of_lt hgs))
  have hsa : ((w.alloc (.cells #[.pointer (some ⟨gb, 0, none⟩)] 61)).alloc (.cells #[.int .i64 x0, .int .i64 x1, .int .i64 x2] 33)).heap.size = w.heap.size + 2 := by simp
  obtain ⟨wa, hwa⟩ : ∃ wa, (w.alloc (.cells #[.pointer (some ⟨gb, 0, none⟩)] 61)).alloc (.cells #[.int .i64 x0, .int .i64 x1, .int .i64 x2] 33) = wa := ⟨_, rfl⟩
  rw [hwa] at hba ka2 ka3 hSa hsa
  have hLC : Calls Tryz.prog 91 #[.pointer (some ⟨gb, 0, none⟩), .agg #[.int .i64 x0, .int .i64 x1, .int .i64 x2]] wa fun e w' => Below wa.heap.size wa w' ∧ LineR wa pgs ⟨x0, x1, x2⟩ e := by
    obtain ⟨ov, q1, q2, q3⟩ := hSa
    exact line_calls gb nv pv ov pgs Ag cg ⟨x0, x1, x2⟩ _ HX.out q1 (Kd.C_below HP.out q3)
  rw [← hwa] at hLC
  have HF := Aside0.mk (And.intro hba (And.intro ka2 (And.intro ka3 (And.intro hSa hsa))))
  have HWA := Aside0.mk hwa
  clear hba ka2 ka3 hSa hsa hwa
  have HLC := Aside0.mk hLC
  clear hLC
  go_wp2_with (go_at_call 91; refine Aside0.out ?_)
  refine ⟨?_⟩
  refine HLC.out.mono ?_; rintro e w2 ⟨hb2, hL⟩; obtain ⟨l, A, c, b, rfl, hc, hC, hlk⟩ := hL.uniform; clear hL; rw [HWA.out] at hb2 hC
  obtain ⟨f1, f2, f3, f4, f5⟩ := HF.out
  have h3 : Below wa.heap.size wa (w2.alloc (.cells #[.slice A l.f0.length c, .int .i64 l.f1, .int .i64 l.f2] 56)) := below_alloc hb2 _
  have x3 := blk_below f3 h3
  have R2 : (w2.alloc (.cells #[.slice A l.f0.length c, .int .i64 l.f1, .int .i64 l.f2] 56)).cell? ⟨w.heap.size + 1, 2, none⟩ = some (.int .i64 x2) := (blk_cell x3 2).trans rfl
  have hC3 := Aside0.mk (Kd.C_below hC h3)
  have HS3 := Aside0.mk (f4.below h3 (by rw [f5]; have := HB.out; omega))
  have HX3 := Aside0.mk (blk_below f2 h3)
  have HK3 := Aside0.mk (Kp.below (X := (· = gb)) (f1.trans (h3.mono (by rw [f5]; omega))))
  have HC := Aside0.mk hc
  clear f1 f2 f3 f4 f5 h3 x3 hb2 hC hc HLC HWA HF
  rcases b with _ | _
  · have HT := Aside0.mk (show tk pgs ⟨x0, x1, x2⟩ = none by unfold tk; rw [hlk]; rfl)
    clear hlk
    go_wp2
    go_ret
    unfold TakeR
    rw [HT.out]
    exact ⟨rfl, by simpa using HS3.out, HK3.out⟩
  by_cases c1 : x2 < 0
  · have HT := Aside0.mk (show tk pgs ⟨x0, x1, x2⟩ = none by unfold tk; rw [hlk]; simp only [if_true]; rw [if_pos c1])
    have b1 := decide_eq_true c1
    clear c1 hlk
    go_wp2
    go_ret
    unfold TakeR
    rw [HT.out]
    exact ⟨rfl, by simpa using HS3.out, HK3.out⟩
  have b1 := decide_eq_false c1
  by_cases c2 : (l.f0.length : Int) < x2
  · have HT := Aside0.mk (show tk pgs ⟨x0, x1, x2⟩ = none by unfold tk; rw [hlk]; simp only [if_true]; rw [if_neg c1, if_pos c2])
    have b2 := decide_eq_true c2
    clear c1 c2 hlk
    go_wp2
    go_ret
    unfold TakeR
    rw [HT.out]
    exact ⟨rfl, by simpa using HS3.out, HK3.out⟩
  have b2 := decide_eq_false c2
  by_cases c3 : x2 = (l.f0.length : Int)
  · have HT := Aside0.mk (show tk pgs ⟨x0, x1, x2⟩ = some [⟨1, 32, 0⟩] by unfold tk; rw [hlk]; simp only [if_true]; rw [if_neg c1, if_neg c2, if_pos c3])
    have b3 : (x2 == (l.f0.length : Int)) = true := beq_iff_eq.mpr c3
    clear c1 c2 c3 hlk
    go_wp2_with (go_at_call 92; refine Aside0.out ?_)
    refine ⟨?_⟩
    refine (put_calls W0 W0.heap.size gb w.heap.size nv pv Ag _ cg out _ _ HS3.out HB.out HX3.out hl).mono ?_
    rintro e w4 ⟨rfl, hS4, hK4⟩
    have HS4 := Aside0.mk hS4
    have HK4 := Aside0.mk (HK3.out.trans hK4)
    clear hS4 hK4 HS3 HX3 HK3
    go_wp2
    go_ret
    unfold TakeR
    rw [HT.out]
    exact ⟨rfl, HS4.out, HK4.out⟩
  have b3 : (x2 == (l.f0.length : Int)) = false := beq_eq_false_iff_ne.mpr c3
  obtain ⟨ad, ead, d0, d1, d2, d3⟩ := at_T60 hC3.out x2 (by omega) (by omega)
  subst ead
  have hx2 : 0 ≤ x2 := by omega
  have hx2l : x2 < (l.f0.length : Int) := by omega
  by_cases c4 : (rd_T60 l.f0 x2).f2 = 2
  · have HT := Aside0.mk (show tk pgs ⟨x0, x1, x2⟩ = none by unfold tk; rw [hlk]; simp only [if_true]; rw [if_neg c1, if_neg c2, if_neg c3, if_pos c4])
    have b4 : ((rd_T60 l.f0 x2).f2 == 2) = true := beq_iff_eq.mpr c4
    clear c1 c2 c3 c4 hlk
    go_wp2
    go_ret
    unfold TakeR
    rw [HT.out]
    exact ⟨rfl, by simpa using HS3.out, HK3.out⟩
  have b4 : ((rd_T60 l.f0 x2).f2 == 2) = false := beq_eq_false_iff_ne.mpr c4
  by_cases c5 : (rd_T60 l.f0 x2).f2 = 1
  · have HT := Aside0.mk (show tk pgs ⟨x0, x1, x2⟩ = some [] by unfold tk; rw [hlk]; simp only [if_true]; rw [if_neg c1, if_neg c2, if_neg c3, if_neg c4, if_pos c5])
    have b5 : ((rd_T60 l.f0 x2).f2 == 1) = true := beq_iff_eq.mpr c5
    clear c1 c2 c3 c4 c5 hlk
    go_wp2
    go_ret
    unfold TakeR
    rw [HT.out]
    exact ⟨rfl, by simpa using HS3.out, HK3.out⟩
  · have HT := Aside0.mk (show tk pgs ⟨x0, x1, x2⟩ = some [⟨1, (rd_T60 l.f0 x2).f1, 0⟩] by unfold tk; rw [hlk]; simp only [if_true]; rw [if_neg c1, if_neg c2, if_neg c3, if_neg c4, if_neg c5])
    have b5 : ((rd_T60 l.f0 x2).f2 == 1) = false := beq_eq_false_iff_ne.mpr c5
    clear c1 c2 c3 c4 c5 hlk
    go_wp2_with (go_at_call 92; refine Aside0.out ?_)
    refine ⟨?_⟩
    refine (put_calls W0 W0.heap.size gb w.heap.size nv pv Ag _ cg out _ _ HS3.out HB.out HX3.out hl).mono ?_
    rintro e w4 ⟨rfl, hS4, hK4⟩
    have HS4 := Aside0.mk hS4
    have HK4 := Aside0.mk (HK3.out.trans hK4)
    clear hS4 hK4 HS3 HX3 HK3
    go_wp2
    go_ret
    unfold TakeR
    rw [HT.out]
    exact ⟨rfl, HS4.out, HK4.out⟩
end Go.Proofs.YtbapfjjegbbmfaaGreatDoor.PGatherAlone
