/-
  A text's places are taken, one behind the other.
-/
import Derived.Test.YtbapfjjegbbmfaaGreatDoorGa3
set_option linter.unusedVariables false
set_option linter.unusedSimpArgs false
namespace Go.Proofs.YtbapfjjegbbmfaaGreatDoor.PGatherAlone
open Go.RowKit Go.Proofs.YtbapfjjegbbmfaaGreatDoorW.PrintWords Go.Proofs.YtbapfjjegbbmfaaGreatDoorW.PrintLast Go.Proofs.YtbapfjjegbbmfaaGreatDoorW.PrintMore

def val53 (x : S53) : Value := .agg #[.int .u8 x.f0, .int .i64 x.f1, .int .i64 x.f2, .int .i64 x.f3]
def txt (pgs : List S43) : List S33 → Option (List S51)
  | [] => some []
  | x :: r => (tk pgs x).bind fun a => (txt pgs r).map (a ++ ·)
/-- A text's tokens. -/
def textsF (pgs : List S43) (pl : List S33) (x : S53) (from_ : Int) : Option (List S51) :=
  if x.f2 ≠ from_ then none else if x.f3 < from_ then none else if (pl.length : Int) < x.f3 then none else txt pgs ((pl.take x.f3.toNat).drop from_.toNat)
def TextsR (W0 : World) (gb : Nat) (nv pv : Value) (Ag : Option Addr) (n cg : Nat) (out : List S51) (w : World) (r : Option (List S51)) (e : Ending) (w' : World) : Prop :=
  e = .returned (.bool r.isSome) ∧ Kp (· = gb) w w' ∧ ∃ out', GS W0 W0.heap.size gb nv pv Ag n cg out' w' ∧ ∀ ts, r = some ts → out' = out ++ ts
theorem tk_length {pgs : List S43} {x : S33} {a : List S51} (h : tk pgs x = some a) : a.length ≤ 1 := by
  unfold tk at h
  repeat' split at h
  all_goals first | (cases h; done) | (cases h; simp)
theorem txt_cons {pgs : List S43} {l : List S33} {i : Nat} (hi : i < l.length) : txt pgs (l.drop i) = (tk pgs (rd_T33 l (i : Nat))).bind fun a => (txt pgs (l.drop (i + 1))).map (a ++ ·) := by
  rw [List.drop_eq_getElem_cons hi, txt]
  have : rd_T33 l (i : Nat) = l[i] := by simp [rd_T33, List.getD, hi]
  rw [this]
theorem txt_step {pgs : List S43} {l : List S33} {i : Nat} {a b : List S51} (hi : i < l.length) (h : txt pgs l = (txt pgs (l.drop i)).map (a ++ ·)) (ht : tk pgs (rd_T33 l (i : Nat)) = some b) : txt pgs l = (txt pgs (l.drop (i + 1))).map ((a ++ b) ++ ·) := by
  rw [h, txt_cons hi, ht]
  simp [Option.map_map, Function.comp_def]
theorem txt_stop {pgs : List S43} {l : List S33} {i : Nat} {a : List S51} (hi : i < l.length) (h : txt pgs l = (txt pgs (l.drop i)).map (a ++ ·)) (ht : tk pgs (rd_T33 l (i : Nat)) = none) : txt pgs l = none := by
  rw [h, txt_cons hi, ht]; rfl
theorem info33 : (Tryz.prog.info? 33).map (fun i => (i.zero, i.size, i.bytes)) = some (some (.agg #[(.int .i64 0), (.int .i64 0), (.int .i64 0)]), 3, 24) := by kernel_rfl
set_option maxRecDepth 100000 in
set_option maxHeartbeats 8000000 in
theorem texts_calls (W0 : World) (gb : Nat) (nv : Value) (Ag Ap : Option Addr) (cg cp : Nat) (pgs : List S43) (pl : List S33) (out : List S51) (x : S53) (from_ : Int) (w : World) (hp : Kd.C k43 W0 Ag pgs.length pgs) (hpl : Kd.C k33 W0 Ap pl.length pl) (hcp : pl.length ≤ cp)
    (hpw : ∀ y ∈ pl, wf33 y) (hS : GS W0 W0.heap.size gb nv (.slice Ap pl.length cp) Ag pgs.length cg out w) (hBg : W0.heap.size ≤ gb) (hf : 0 ≤ from_) (hl : out.length + pl.length ≤ 1000000) :
    Calls Tryz.prog 34 #[.pointer (some ⟨gb, 0, none⟩), val53 x, .int .i64 from_] w fun e w' => TextsR W0 gb nv (.slice Ap pl.length cp) Ag pgs.length cg out w (textsF pgs pl x from_) e w' := by
  have hu53 := Tryz.underlying53
  have hu63 := Tryz.underlying63
  have hu27 := Tryz.underlying27
  obtain ⟨x0, x1, x2, x3⟩ := x
  obtain ⟨n1, hn1⟩ : ∃ n, n = pl.length := ⟨_, rfl⟩
  have HP := Aside0.mk hp
  have HPL := Aside0.mk hpl
  have HCP := Aside0.mk hcp
  have HPW := Aside0.mk hpw
  have HS := Aside0.mk hS
  have HB := Aside0.mk hBg
  clear hp hS hBg hpl hpw hcp
  have hgs : gb < w.heap.size := HS.out.size
  have hba := below_alloc (Below.refl w.heap.size w) (.cells #[.int .u8 x0, .int .i64 x1, .int .i64 x2, .int .i64 x3] 53)
  have hSa := HS.out.below hba (Nat.le_trans HB.out (Nat.le_of_lt hgs))
  have HKa := Aside0.mk (Kp.below (X := (· = gb)) hba)
  have s2 : (w.alloc (.cells #[.int .u8 x0, .int .i64 x1, .int .i64 x2, .int .i64 x3] 53)).cell? ⟨w.heap.size, 2, none⟩ = some (.int .i64 x2) := (blk_cell (blk_new w _) 2).trans rfl
  have s3 : (w.alloc (.cells #[.int .u8 x0, .int .i64 x1, .int .i64 x2, .int .i64 x3] 53)).cell? ⟨w.heap.size, 3, none⟩ = some (.int .i64 x3) := (blk_cell (blk_new w _) 3).trans rfl
  have s4 : (w.alloc (.cells #[.int .u8 x0, .int .i64 x1, .int .i64 x2, .int .i64 x3] 53)).cell? ⟨gb, 1, none⟩ = some (.slice Ap pl.length cp) := (blk_cell hSa.choose_spec.1 1).trans rfl
  have HSa := Aside0.mk hSa
  clear hSa hba
  simp only [val53]
  go_enter Tryz.func34, Tryz.ntmps34
  go_wp2
  have base : ∀ (e : Ending) (W : World) (r : Option (List S51)), e = .returned (.bool false) → r = none → Below (w.alloc (.cells #[.int .u8 x0, .int .i64 x1, .int .i64 x2, .int .i64 x3] 53)).heap.size (w.alloc (.cells #[.int .u8 x0, .int .i64 x1, .int .i64 x2, .int .i64 x3] 53)) W →
      TextsR W0 gb nv (.slice Ap pl.length cp) Ag pgs.length cg out w r e W := by
    rintro e W r rfl rfl hb
    exact ⟨rfl, HKa.out.trans (Kp.below hb), out, HSa.out.below hb (by simp; have := HB.out; omega), fun _ h => by cases h⟩
  have BASE := Aside0.mk base
  clear base
  by_cases c1 : x2 = from_
  rotate_left
  · have b1 : (x2 == from_) = false := beq_eq_false_iff_ne.mpr c1
    have b1x : (x2 != from_) = true := by simp [bne, b1]
    have HT := Aside0.mk (show textsF pgs pl ⟨x0, x1, x2, x3⟩ from_ = none by unfold textsF; rw [if_pos c1])
    clear c1
    repeat (go_quiet (fail); try go_wp2)
    go_ret
    exact BASE.out _ _ _ rfl HT.out (by repeat (first | (with_reducible exact Below.refl _ _) | (with_reducible apply pw_below_drewN) | (with_reducible apply below_drew1) | (with_reducible apply below_alloc)))
  obtain rfl := c1
  have b1 : (x2 == x2) = true := beq_iff_eq.mpr rfl
  by_cases c2 : x3 < x2
  · have b2 := decide_eq_true c2
    have HT := Aside0.mk (show textsF pgs pl ⟨x0, x1, x2, x3⟩ x2 = none by unfold textsF; rw [if_neg (by simp), if_pos c2])
    clear c2
    repeat (go_quiet (fail); try go_wp2)
    go_ret
    exact BASE.out _ _ _ rfl HT.out (by repeat (first | (with_reducible exact Below.refl _ _) | (with_reducible apply pw_below_drewN) | (with_reducible apply below_drew1) | (with_reducible apply below_alloc)))
  have b2 := decide_eq_false c2
  by_cases c3 : (pl.length : Int) < x3
  · have b3 := decide_eq_true c3
    have HT := Aside0.mk (show textsF pgs pl ⟨x0, x1, x2, x3⟩ x2 = none by unfold textsF; rw [if_neg (by simp), if_neg c2, if_pos c3])
    clear c2 c3
    repeat (go_quiet (fail); try go_wp2)
    go_ret
    exact BASE.out _ _ _ rfl HT.out (by repeat (first | (with_reducible exact Below.refl _ _) | (with_reducible apply pw_below_drewN) | (with_reducible apply below_drew1) | (with_reducible apply below_alloc)))
  have b3 := decide_eq_false c3
  have HT := Aside0.mk (show textsF pgs pl ⟨x0, x1, x2, x3⟩ x2 = txt pgs ((pl.take x3.toNat).drop x2.toNat) by unfold textsF; rw [if_neg (by simp), if_neg c2, if_neg c3])
  obtain ⟨i0, hi0, _, hsz0, _⟩ := info_parts info33
  have hcut := cut_mid (P := Tryz.prog) 25 33 .i64 .i64 Tryz.underlying25 hi0 3 hsz0 Ap pl.length cp x2 x3 hf (by omega) (by omega) HCP.out
  have hr := Kd.C_mid (lo := x2.toNat) (hi := x3.toNat) (c := cp) HPL.out (by omega) (by omega) HCP.out
  have hn : ((pl.take x3.toNat).drop x2.toNat).length = x3.toNat - x2.toNat := by rw [List.length_drop, List.length_take]; omega
  obtain ⟨A1, hA1⟩ : ∃ A1, A1 = (if cp = x2.toNat then Ap else Ap.map (·.add (x2.toNat * 3))) := ⟨_, rfl⟩
  have hlw : ∀ y ∈ (pl.take x3.toNat).drop x2.toNat, wf33 y := fun y hy => HPW.out y (List.mem_of_mem_take (List.mem_of_mem_drop hy))
  have hll : ((pl.take x3.toNat).drop x2.toNat).length ≤ pl.length := by rw [hn]; omega
  generalize (pl.take x3.toNat).drop x2.toNat = l at hr hn HT hlw hll
  replace hr : Kd.C k33 W0 A1 l.length l := by rw [hA1]; exact hr
  rw [← hn, ← hA1] at hcut
  have HR := Aside0.mk hr
  have HLW := Aside0.mk hlw
  have HN := Aside0.mk hn
  have HA1 := Aside0.mk hA1
  clear hr hi0 hsz0 c2 c3 hlw hn hA1
  repeat (go_quiet (fail); try go_wp2)
  clear s2 s3 s4 BASE hcut b1 b2 b3
  go_loopg [41] l.length (fun gk v41 wr => ∃ (i : Nat) (a : List S51), v41 = .int .i64 i ∧ Aside0 (i + gk = l.length) ∧ Aside0 (GS W0 W0.heap.size gb nv (.slice Ap pl.length cp) Ag pgs.length cg (out ++ a) wr) ∧ Aside0 (Kp (· = gb) w wr) ∧ Aside0 (a.length ≤ i) ∧ Aside0 (txt pgs l = (txt pgs (l.drop i)).map (a ++ ·)))
  case atStart =>
    refine ⟨0, [], rfl, ⟨by omega⟩, ⟨?_⟩, ⟨HKa.out.trans (Kp.below ?_)⟩, ⟨Nat.le_refl _⟩, ⟨by simp⟩⟩
    · rw [List.append_nil]
      exact HSa.out.below (by repeat (first | (with_reducible exact Below.refl _ _) | (with_reducible apply pw_below_drewN) | (with_reducible apply below_drew1) | (with_reducible apply below_alloc))) (by simp; have := HB.out; omega)
    · repeat (first | (with_reducible exact Below.refl _ _) | (with_reducible apply pw_below_drewN) | (with_reducible apply below_drew1) | (with_reducible apply below_alloc))
  case round =>
    obtain ⟨i, a, rfl, hi, hG, hK, ha, htx⟩ := hrel
    have hi := hi.out
    by_cases hlt : i < l.length
    · obtain ⟨ad, e0, hx0, hx1, hx2⟩ := at_T33 HR.out (i : Int) (by omega) (by omega)
      subst e0
      replace hx0 := (hG.out.choose_spec.2.2.cell (World.block_lt_of_cell? _ _ hx0)).trans hx0
      replace hx1 := (hG.out.choose_spec.2.2.cell (World.block_lt_of_cell? _ _ hx1)).trans hx1
      replace hx2 := (hG.out.choose_spec.2.2.cell (World.block_lt_of_cell? _ _ hx2)).trans hx2
      simp only [Int.toNat_natCast] at hx0 hx1 hx2
      have hwf : wf33 (rd_T33 l (i : Nat)) := by
        have : rd_T33 l (i : Nat) = l[i] := by simp [rd_T33, List.getD, hlt]
        rw [this]; exact HLW.out _ (List.getElem_mem hlt)
      have HWF := Aside0.mk hwf
      clear hwf
      have hsz := HB.out
      have hsz2 : gb < wr.heap.size := hG.out.size
      have hT := take_calls W0 gb nv (.slice Ap pl.length cp) Ag cg pgs (out ++ a) (rd_T33 l (i : Nat)) (wr.alloc (.cells #[.int .i64 (rd_T33 l (i : Nat)).f0, .int .i64 (rd_T33 l (i : Nat)).f1, .int .i64 (rd_T33 l (i : Nat)).f2] 33)) HWF.out HP.out (hG.out.below (below_alloc (Below.refl _ _) _) (by omega)) hsz (by have := ha.out; simp; omega)
      simp only [val33] at hT
      have HTC := Aside0.mk hT
      clear hT
      go_wp2_with (go_at_call 55; refine Aside0.out ?_)
      refine ⟨?_⟩
      refine HTC.out.mono ?_
      clear HTC
      rintro e w3 ⟨rfl, hG3, hK3⟩
      have HG3 := Aside0.mk hG3
      have HK3 := Aside0.mk ((hK.out.trans (Kp.below (below_alloc (Below.refl _ _) _))).trans hK3)
      clear hG3 hK3
      generalize htk : tk pgs (rd_T33 l (i : Nat)) = r at HG3
      cases r with
      | none =>
        have HT2 := Aside0.mk (txt_stop hlt htx.out htk)
        go_wp2
        go_ret
        rw [HT.out, HT2.out]
        exact ⟨rfl, HK3.out, _, HG3.out, fun _ h => by cases h⟩
      | some b =>
        have HT2 := Aside0.mk (txt_step hlt htx.out htk)
        have hb1 := tk_length htk
        go_wp2
        go_roundg (gk - 1)
        case measure => omega
        case rel =>
          refine ⟨i + 1, a ++ b, by go_num, ⟨by omega⟩, ⟨?_⟩, HK3, ⟨?_⟩, HT2⟩
          · have := HG3.out; rwa [Option.getD_some, List.append_assoc] at this
          · have := ha.out; simp; omega
    · obtain rfl : i = l.length := by omega
      have HT2 := Aside0.mk (show txt pgs l = some a by have h := htx.out; rw [List.drop_length] at h; rw [h]; simp [txt])
      go_wp2
      go_ret
      rw [HT.out, HT2.out]
      exact ⟨rfl, hK.out, _, hG.out, fun _ h => by cases h; rfl⟩
end Go.Proofs.YtbapfjjegbbmfaaGreatDoor.PGatherAlone
