/-
  GatherAlone answers true of pages and an order that lie in the world, and writes nothing old. Conditions: what the arguments read as; their lengths.
-/
import Derived.Test.YtbapfjjegbbmfaaGreatDoorGa9
import Derived.Test.YtbapfjjegbbmfaaGreatDoorGa10
import Derived.Test.YtbapfjjegbbmfaaGreatDoorGa11
import Derived.Test.YtbapfjjegbbmfaaGreatDoorEz
set_option linter.unusedVariables false
set_option linter.unusedSimpArgs false
namespace Go.Proofs.YtbapfjjegbbmfaaGreatDoor.PGatherAlone
open Go.RowKit Go.Proofs.YtbapfjjegbbmfaaGreatDoorW.PrintWords Go.Proofs.YtbapfjjegbbmfaaGreatDoorW.PrintLast Go.Proofs.YtbapfjjegbbmfaaGreatDoorW.PrintMore

theorem info43 : (Tryz.prog.info? 43).map (fun i => (i.zero, i.size, i.bytes)) = some (some (.agg #[.slice none 0 0, .slice none 0 0]), 2, 48) := by kernel_rfl
/-- A row of lines lies off a row of pages. -/
theorem off43 {W : World} {S : Nat} {u v : Value} {xs : List S56} {ok : Nat → Prop} (h : Kd.R k56 56 W S ok u xs) (hb : ∀ k, v.ownBlock = some k → ∃ cells, W.heap[k]? = some (.cells cells 43 (0, 0))) : Kd.R k56 56 W S (fun k => True ∧ some k ≠ v.ownBlock) u xs := by
  refine Kd.R_mono (Kd.R_bound h) (fun k hk => ⟨trivial, fun e => ?_⟩)
  obtain ⟨_, _, _, q, hq, cells, hc⟩ := hk
  obtain ⟨cs, hcs⟩ := hb k e.symm
  rw [hc] at hcs
  simp only [Option.some.injEq, Obj.cells.injEq] at hcs
  have hq2 : q ∈ [56, 60] := hq
  obtain ⟨_, rfl, _⟩ := hcs
  simp at hq2
def OfQ (w : World) (q : Int) (out : List S51) (e : Ending) (w' : World) : Prop :=
  Below w.heap.size w w' ∧ ∃ v, e = .returned (.tuple #[v, .int .i64 q]) ∧ Kd.R k51 51 w' w.heap.size (fun _ => True) v out
def law4.T7 : Bool × List (List Nat × List Nat) := (true, [([], []), ([], []), ([], []), ([1, 2], [1, 2]), ([3], [3]), ([4], [4]), ([5], [5]), ([], []), ([], []), ([7, 8], [7, 8]), ([9], [9]), ([10], [10]), ([11, 6], [11]), ([6, 12], [6, 12]), ([13], [13]), ([0, 14, 12], [0, 14]), ([15, 15, 0, 1, 2, 3, 4, 5, 6, 7, 8, 9, 10, 11, 12, 13, 14, 15], [0, 15])])
def law4.B7 : List Nat := [0, 0, 0, 6, 14, 30, 62, 0, 0, 384, 896, 1920, 4094, 8190, 16382, 32767, 65535]
theorem law4.tab7 : rtab .any (opsOf Tryz.f4 7) = law4.T7 := by kernel_rfl
theorem law4.bits7 : waitsOk law4.T7.2 law4.B7 = true := by kernel_rfl
set_option maxRecDepth 100000 in
set_option maxHeartbeats 8000000 in
/-- GatherAlone answers true of any pages and order that lie in the world, and writes nothing old. -/
theorem law_calls (pgs : List S43) (Ag : Option Addr) (cg : Nat) (nl : List S53) (An : Option Addr) (cn : Nat) (pl : List S33) (Ap : Option Addr) (cp : Nat) (w : World)
    (hp : Kd.C k43 w Ag pgs.length pgs) (hcg : pgs.length ≤ cg) (hn : Kd.C k53 w An nl.length nl) (hcn : nl.length ≤ cn) (hpl : Kd.C k33 w Ap pl.length pl) (hcp : pl.length ≤ cp) (hpw : ∀ y ∈ pl, wf33 y) (hb : Bp pgs) :
    Calls Tryz.prog 4 #[.slice Ag pgs.length cg, .agg #[.slice An nl.length cn, .slice Ap pl.length cp]] w fun e w' => e = .returned (.bool true) ∧ Below w.heap.size w w' := by
  have hu27 := Tryz.underlying27
  have hu43 := Tryz.underlying43
  obtain ⟨km, rm, hm, hr⟩ := many_eq pgs nl pl hb
  have HPG := Aside0.mk hp; have HN := Aside0.mk hn; have HPL := Aside0.mk hpl; have HCG := Aside0.mk hcg; have HCN := Aside0.mk hcn; have HCP := Aside0.mk hcp; have HPW := Aside0.mk hpw; have HBP := Aside0.mk hb
  have HM := Aside0.mk hm; have HRM := Aside0.mk hr
  clear hp hn hpl hcg hcn hcp hpw hb hm hr
  have hba : Below w.heap.size w (w.alloc (.cells #[.slice An nl.length cn, .slice Ap pl.length cp] 27)) := below_alloc (Below.refl _ _) _
  have hbx := blk_new w (.cells #[.slice An nl.length cn, .slice Ap pl.length cp] 27)
  have HBA := Aside0.mk hba
  have HBX := Aside0.mk hbx
  clear hba hbx
  cases rm with
  | true =>
    go_enter Tryz.func4, Tryz.ntmps4
    go_wp2_with (go_at_call 11; refine (styluslaw24_many.calls km _ _ pgs _ _ nl _ _ pl true _ (Kd.C_below HPG.out HBA.out) HCG.out (Kd.C_below HN.out HBA.out) HCN.out (Kd.C_below HPL.out HBA.out) HCP.out HM.out).mono ?_; rintro e w2 ⟨rfl, hb2⟩)
    have HB2 := Aside0.mk hb2
    clear hb2
    go_wp2_with (go_at_call 12; refine (Go.X.Ents.awake_calls _).mono ?_; rintro e w3 ⟨rfl, hb3⟩)
    go_ret
    exact ⟨rfl, (HBA.out.trans (HB2.out.mono HBA.out.size)).trans (hb3.mono (Nat.le_trans HBA.out.size HB2.out.size))⟩
  | false =>
    have HN3 := Aside0.mk (HRM.out rfl)
    clear HRM
    go_enter Tryz.func4, Tryz.ntmps4
    go_wp2_with (go_at_call 11; refine (styluslaw24_many.calls km _ _ pgs _ _ nl _ _ pl false _ (Kd.C_below HPG.out HBA.out) HCG.out (Kd.C_below HN.out HBA.out) HCN.out (Kd.C_below HPL.out HBA.out) HCP.out HM.out).mono ?_; rintro e w2 ⟨rfl, hb2⟩)
    have hN20 := Aside0.mk HN3.out.1
    have hN200 := Aside0.mk HN3.out.2.1
    have hN400 := Aside0.mk HN3.out.2.2.1
    have HBW0 := Aside0.mk (HBA.out.trans (hb2.mono HBA.out.size))
    have HBX2 := Aside0.mk (blk_below HBX.out hb2)
    clear HBX HM hb2
    go_loopg [5, 6] pgs.length (fun gk v5 v6 wr => ∃ (i : Nat) (vb : Value), vb = v5 ∧ v6 = .int .i64 i ∧ Aside0 (i + gk = pgs.length) ∧ Aside0 (Below w2.heap.size w2 wr) ∧ Aside0 (Kd.R k43 43 wr w2.heap.size (fun _ => True) vb ((pgs.take i).map pg1)))
    case atStart => exact ⟨0, _, rfl, rfl, ⟨by omega⟩, ⟨Below.refl _ _⟩, ⟨Kd.R_nil _ _ _ _ _⟩⟩
    case round =>
      obtain ⟨i, vb, rfl, rfl, hi, HB2, HR2⟩ := hrel
      have hi := hi.out
      by_cases hlt : i < pgs.length
      rotate_left
      · obtain rfl : i = pgs.length := by omega
        have hR := HR2.out
        rw [List.take_length] at hR
        obtain ⟨Ab, cb, rfl, hcb, hCb⟩ := Kd.R_reads hR
        have HCb := Aside0.mk hCb
        clear hR hCb
        have c0 : wr.cell? ⟨w.heap.size, 0, none⟩ = some (.slice An nl.length cn) := (blk_cell (blk_below HBX2.out HB2.out) 0).trans rfl
        have c1 : wr.cell? ⟨w.heap.size, 1, none⟩ = some (.slice Ap pl.length cp) := (blk_cell (blk_below HBX2.out HB2.out) 1).trans rfl
        have HW := Aside0.mk (HBW0.out.trans (HB2.out.mono HBW0.out.size))
        have HBX3 := Aside0.mk (blk_below HBX2.out HB2.out)
        obtain ⟨q, hq⟩ : ∃ q : Int, q = (if (readF pgs pl nl).isSome = true then 0 else 1) := ⟨_, rfl⟩
        obtain ⟨out, hout⟩ : ∃ out, out = (readF pgs pl nl).getD [] := ⟨_, rfl⟩
        have bq : (q == q) = true := by simp
        have H1 : Aside0 (Calls Tryz.prog 14 #[.slice Ag pgs.length cg, .agg #[.slice An nl.length cn, .slice Ap pl.length cp]] wr (OfQ wr q out)) := ⟨by rw [hq, hout]; exact of_calls Ag Ap An cg cp cn pgs pl nl wr (Kd.C_below HPG.out HW.out) (Kd.C_below HPL.out HW.out) HCP.out (Kd.C_below HN.out HW.out) HPW.out hN400.out hN200.out⟩
        have H2 := Aside0.mk (fun (W : World) (hw : Below w.heap.size w W) (hc : Kd.C k43 W Ab (pgs.map pg1).length (pgs.map pg1)) => (show Calls Tryz.prog 14 #[.slice Ab pgs.length cb, .agg #[.slice An nl.length cn, .slice Ap pl.length cp]] W (OfQ W q out) from by have h9 := of_calls Ab Ap An cb cp cn (pgs.map pg1) pl nl W hc (Kd.C_below HPL.out hw) HCP.out (Kd.C_below HN.out hw) HPW.out hN400.out hN200.out; rw [List.length_map, read_map] at h9; rw [hq, hout]; exact h9))
        clear hq hout
        go_wp2_with (go_at_call 14; first
          | (refine H1.out.mono ?_; clear H1; rintro e w3 ⟨hb3, va, rfl, hRa⟩; have HRa := Aside0.mk hRa; have HW3 := Aside0.mk (HW.out.trans (hb3.mono HW.out.size)); have HCb3 := Aside0.mk (Kd.C_below HCb.out hb3); have d0 : w3.cell? ⟨w.heap.size, 0, none⟩ = some (.slice An nl.length cn) := (blk_cell (blk_below HBX3.out hb3) 0).trans rfl; have d1 : w3.cell? ⟨w.heap.size, 1, none⟩ = some (.slice Ap pl.length cp) := (blk_cell (blk_below HBX3.out hb3) 1).trans rfl; clear hRa hb3 c0 c1)
          | refine Aside0.out ?_)
        refine ⟨(H2.out _ HW3.out HCb3.out).mono ?_⟩
        clear H2
        rintro e w4 ⟨hb4, vb, rfl, hRb⟩
        have hRa4 := Kd.R_below HRa.out hb4
        have HW4 := Aside0.mk (HW3.out.trans (hb4.mono HW3.out.size))
        obtain ⟨Ax, cx, rfl, _, hCx⟩ := Kd.R_reads hRa4
        obtain ⟨Ay, cy, rfl, _, hCy⟩ := Kd.R_reads hRb
        have HCx := Aside0.mk hCx
        have HCy := Aside0.mk hCy
        clear hRb hRa4 hCx hCy hb4 d0 d1
        go_wp2_with (first
          | (go_at_call 15; refine (same_calls Ax Ay cx cy out _ HCx.out HCy.out).mono ?_; rintro e w5 ⟨rfl, hb5⟩; have HW5 := Aside0.mk (HW4.out.trans (hb5.mono HW4.out.size)); clear hb5)
          | (go_at_call 12; refine (Go.X.Ents.awake_calls _).mono ?_; rintro e w6 ⟨rfl, hb6⟩; have HW6 := Aside0.mk (HW5.out.trans (hb6.mono HW5.out.size)); clear hb6)
          | fail)
        go_ret
        exact ⟨rfl, HW6.out⟩
      have HW := Aside0.mk (HBW0.out.trans (HB2.out.mono HBW0.out.size))
      obtain ⟨ad, A0, c0, A1, c1, e0, x0, x1, l0, k0, l1, k1⟩ := at_T43 HPG.out (i : Int) (by omega) (by omega)
      subst e0
      have HP := Aside0.mk (HBP.out.2 _ (List.getElem_mem hlt))
      rw [← rd43_mem hlt] at HP
      have hpt : (pgs.take (i + 1)).map pg1 = (pgs.take i).map pg1 ++ [pg1 (rd_T43 pgs (i : Nat))] := by
        rw [List.take_add_one, List.getElem?_eq_getElem hlt, rd43_mem hlt, List.map_append]; rfl
      have HPT := Aside0.mk hpt
      clear hpt
      simp only [Int.toNat_natCast] at x0 x1
      obtain ⟨p, hp⟩ : ∃ p, p = rd_T43 pgs (i : Nat) := ⟨_, rfl⟩
      rw [← hp] at x0 x1 l0 k0 l1 k1 HP HPT
      have y0 := Aside0.mk ((HBW0.out.cell (World.block_lt_of_cell? _ _ x0)).trans x0)
      have y1 := Aside0.mk ((HBW0.out.cell (World.block_lt_of_cell? _ _ x1)).trans x1)
      replace x0 := (HW.out.cell (World.block_lt_of_cell? _ _ x0)).trans x0
      replace x1 := (HW.out.cell (World.block_lt_of_cell? _ _ x1)).trans x1
      have HK0 := Aside0.mk k0
      have HK1 := Aside0.mk k1
      have HL0 := Aside0.mk l0
      have HL1 := Aside0.mk l1
      have HI := Aside0.mk hi
      have HLT := Aside0.mk hlt
      clear k0 k1 l0 l1 hp hi
      go_wp2
      refine start_ (n := 17) (S := fun w' => w'.cell? (ad.add (i * 2)) = some (.slice A0 p.f0.length c0) ∧ w'.cell? ⟨(ad.add (i * 2)).block, (ad.add (i * 2)).off + 1, none⟩ = some (.slice A1 p.f1.length c1)) (ds := []) #[false, false, false, false, false, false, false, false, false, false, false, false, false, false, false, false, false] (by kernel_rfl) rfl rfl ⟨x0, x1⟩ (fun hHeld => ?_)
      refine with_tabW law4.tab7 law4.bits7 (fun HT_ HW_ => ?_)
      replace HB2 : Aside0 (Below w2.heap.size w2 wr.drew) := ⟨below_drew1 HB2.out⟩
      replace HR2 : Aside0 (Kd.R k43 43 wr.drew w2.heap.size (fun _ => True) vb ((pgs.take i).map pg1)) := ⟨Kd.R_drew HR2.out⟩
      replace x0 : wr.drew.cell? (ad.add (i * 2)) = some (.slice A0 p.f0.length c0) := x0
      replace x1 : wr.drew.cell? ⟨(ad.add (i * 2)).block, (ad.add (i * 2)).off + 1, none⟩ = some (.slice A1 p.f1.length c1) := x1
      generalize wr.drew = w5 at HB2 HR2 x0 x1 hHeld ⊢
      refine pure_ (i := 0) (N := some 21) (v := ?_) (a' := ?_) #[true, false, false, false, false, false, false, false, false, false, false, false, false, false, false, false, false] rfl rfl (any_of HT_.out (by kernel_rfl)) (fun _ _ _ h => h) (Or.inl ⟨by rfl, ?_⟩) ?_ ?_
      rotate_left
      · intro w'
        go_simp
        with_reducible rfl
      rotate_left
      · simp only [Act.put, List.setIfInBounds_toArray, List.set_cons_zero, List.set_cons_succ, i64_w, i32_w]
        rfl
      refine pure_ (i := 1) (N := some 22) (v := ?_) (a' := ?_) #[true, true, false, false, false, false, false, false, false, false, false, false, false, false, false, false, false] rfl rfl (any_of HT_.out (by kernel_rfl)) (fun _ _ _ h => h) (Or.inl ⟨by rfl, ?_⟩) ?_ ?_
      rotate_left
      · intro w'
        go_simp
        with_reducible rfl
      rotate_left
      · simp only [Act.put, List.setIfInBounds_toArray, List.set_cons_zero, List.set_cons_succ, i64_w, i32_w]
        rfl
      refine pure_ (i := 2) (N := some 23) (v := ?_) (a' := ?_) #[true, true, true, false, false, false, false, false, false, false, false, false, false, false, false, false, false] rfl rfl (any_of HT_.out (by kernel_rfl)) (fun _ _ _ h => h) (Or.inl ⟨by rfl, ?_⟩) ?_ ?_
      rotate_left
      · intro w'
        go_simp
        with_reducible rfl
      rotate_left
      · simp only [Act.put, List.setIfInBounds_toArray, List.set_cons_zero, List.set_cons_succ, i64_w, i32_w]
        rfl
      refine pure_ (i := 3) (N := some 24) (v := ?_) (a' := ?_) #[true, true, true, true, false, false, false, false, false, false, false, false, false, false, false, false, false] rfl rfl (any_of HT_.out (by kernel_rfl)) (fun _ _ _ h => h) (Or.inl ⟨by rfl, ?_⟩) ?_ ?_
      rotate_left
      · intro w'
        go_simp
        with_reducible rfl
      rotate_left
      · simp only [Act.put, List.setIfInBounds_toArray, List.set_cons_zero, List.set_cons_succ, i64_w, i32_w]
        rfl
      refine pure_ (i := 4) (N := some 25) (v := ?_) (a' := ?_) #[true, true, true, true, true, false, false, false, false, false, false, false, false, false, false, false, false] rfl rfl (any_of HT_.out (by kernel_rfl)) (fun _ _ _ h => h) (Or.inl ⟨by rfl, ?_⟩) ?_ ?_
      rotate_left
      · intro w'
        go_simp
        with_reducible rfl
      rotate_left
      · simp only [Act.put, List.setIfInBounds_toArray, List.set_cons_zero, List.set_cons_succ, i64_w, i32_w]
        rfl
      refine take_ (i := 5) (N := some 26) (v := ?_) (a' := ?_) #[true, true, true, true, true, true, false, false, false, false, false, false, false, false, false, false, false] rfl rfl (take_ofW HT_.out HW_.out (by kernel_rfl)) (fun _ _ _ h => h) (Or.inl ⟨by rfl, ?_⟩) hHeld ?_ ?_
      rotate_left
      · rintro w' ⟨s0, s1⟩
        go_simp
        with_reducible rfl
      rotate_left
      · simp only [Act.put, List.setIfInBounds_toArray, List.set_cons_zero, List.set_cons_succ, i64_w, i32_w]
        rfl
      refine pure_ (i := 7) (N := some 28) (v := ?_) (a' := ?_) #[true, true, true, true, true, true, false, true, false, false, false, false, false, false, false, false, false] rfl rfl (any_of HT_.out (by kernel_rfl)) (fun _ _ _ h => h) (Or.inl ⟨by rfl, ?_⟩) ?_ ?_
      rotate_left
      · intro w'
        go_simp
        with_reducible rfl
      rotate_left
      · simp only [Act.put, List.setIfInBounds_toArray, List.set_cons_zero, List.set_cons_succ, i64_w, i32_w]
        rfl
      refine pure_ (i := 8) (N := some 29) (v := ?_) (a' := ?_) #[true, true, true, true, true, true, false, true, true, false, false, false, false, false, false, false, false] rfl rfl (any_of HT_.out (by kernel_rfl)) (fun _ _ _ h => h) (Or.inl ⟨by rfl, ?_⟩) ?_ ?_
      rotate_left
      · intro w'
        go_simp
        with_reducible rfl
      rotate_left
      · simp only [Act.put, List.setIfInBounds_toArray, List.set_cons_zero, List.set_cons_succ, i64_w, i32_w]
        rfl
      refine pure_ (i := 9) (N := some 30) (v := ?_) (a' := ?_) #[true, true, true, true, true, true, false, true, true, true, false, false, false, false, false, false, false] rfl rfl (any_of HT_.out (by kernel_rfl)) (fun _ _ _ h => h) (Or.inl ⟨by rfl, ?_⟩) ?_ ?_
      rotate_left
      · intro w'
        go_simp
        with_reducible rfl
      rotate_left
      · simp only [Act.put, List.setIfInBounds_toArray, List.set_cons_zero, List.set_cons_succ, i64_w, i32_w]
        rfl
      refine pure_ (i := 10) (N := some 31) (v := ?_) (a' := ?_) #[true, true, true, true, true, true, false, true, true, true, true, false, false, false, false, false, false] rfl rfl (any_of HT_.out (by kernel_rfl)) (fun _ _ _ h => h) (Or.inl ⟨by rfl, ?_⟩) ?_ ?_
      rotate_left
      · intro w'
        go_simp
        with_reducible rfl
      rotate_left
      · simp only [Act.put, List.setIfInBounds_toArray, List.set_cons_zero, List.set_cons_succ, i64_w, i32_w]
        rfl
      refine take_ (i := 11) (N := some 32) (v := ?_) (a' := ?_) #[true, true, true, true, true, true, false, true, true, true, true, true, false, false, false, false, false] rfl rfl (take_ofW HT_.out HW_.out (by kernel_rfl)) (fun _ _ _ h => h) (Or.inl ⟨by rfl, ?_⟩) hHeld ?_ ?_
      rotate_left
      · rintro w' ⟨s0, s1⟩
        go_simp
        with_reducible rfl
      rotate_left
      · simp only [Act.put, List.setIfInBounds_toArray, List.set_cons_zero, List.set_cons_succ, i64_w, i32_w]
        rfl
      have HBW := Aside0.mk HBW0.out
      refine one_ (i := 6) (N := some 27) #[true, true, true, true, true, true, true, true, true, true, true, true, false, false, false, false, false] rfl rfl (one_of HT_.out (by kernel_rfl)) (by decide) (fun K hK => ?_)
      refine goes_ Tryz.func13 (by kernel_rfl) rfl #[.slice A0 p.f0.length c0] (by rfl) rfl rfl (by (try simp only [List.map_toArray, List.map_cons, List.map_nil]); first | done | rfl) ?_
      refine (styluslaw24_stripped.calls _ A0 c0 p.f0 _ w5 (Kd.C_below HK0.out (HBW.out.trans (HB2.out.mono HBW.out.size))) HL0.out (Classical.choose_spec (strip_eq p.f0 HP.out.1))).mono ?_
      rintro e w6 ⟨u0, rfl, hS, hb⟩
      obtain ⟨B0, d0, eu⟩ := Kd.S_slice hS
      rw [List.length_map] at eu
      subst eu
      refine ⟨_, rfl, ?_⟩
      have x0 := (hb.cell (World.block_lt_of_cell? _ _ x0)).trans x0
      have x1 := (hb.cell (World.block_lt_of_cell? _ _ x1)).trans x1
      have HU0 := Aside0.mk (Kd.R_bound (Kd.R_lower (Kd.S_R hS) HB2.out.size))
      have HB6 : Aside0 (Below w2.heap.size w2 w6) := ⟨HB2.out.trans (hb.mono HB2.out.size)⟩
      have HR6 : Aside0 (Kd.R k43 43 w6 w2.heap.size (fun _ => True) vb ((pgs.take i).map pg1)) := ⟨Kd.R_below HR2.out hb⟩
      clear hS hb HB2 HR2
      have HB2 := HB6
      have HR2 := HR6
      clear HB6 HR6
      refine hK.out _ _ ⟨x0, x1⟩ (fun hHeld => ?_)
      clear hK K
      refine norm_ (a' := ?_) ?_ ?_
      rotate_left
      · show Act.put _ (some 27) _ = _
        simp only [Act.put, List.setIfInBounds_toArray, List.set_cons_zero, List.set_cons_succ, i64_w, i32_w]
        rfl
      refine one_ (i := 12) (N := some 33) #[true, true, true, true, true, true, true, true, true, true, true, true, true, false, false, false, false] rfl rfl (one_of HT_.out (by kernel_rfl)) (by decide) (fun K hK => ?_)
      refine goes_ Tryz.func13 (by kernel_rfl) rfl #[.slice A1 p.f1.length c1] (by rfl) rfl rfl (by (try simp only [List.map_toArray, List.map_cons, List.map_nil]); first | done | rfl) ?_
      refine (styluslaw24_stripped.calls _ A1 c1 p.f1 _ w6 (Kd.C_below HK1.out (HBW.out.trans (HB2.out.mono HBW.out.size))) HL1.out (Classical.choose_spec (strip_eq p.f1 HP.out.2))).mono ?_
      rintro e w7 ⟨u1, rfl, hS, hb⟩
      obtain ⟨B1, d1, eu⟩ := Kd.S_slice hS
      rw [List.length_map] at eu
      subst eu
      refine ⟨_, rfl, ?_⟩
      have x0 := (hb.cell (World.block_lt_of_cell? _ _ x0)).trans x0
      have x1 := (hb.cell (World.block_lt_of_cell? _ _ x1)).trans x1
      have HU1 := Aside0.mk (Kd.R_bound (Kd.R_lower (Kd.S_R hS) HB2.out.size))
      have HU0' := Aside0.mk (Kd.R_below HU0.out hb)
      have HB6 : Aside0 (Below w2.heap.size w2 w7) := ⟨HB2.out.trans (hb.mono HB2.out.size)⟩
      have HR6 : Aside0 (Kd.R k43 43 w7 w2.heap.size (fun _ => True) vb ((pgs.take i).map pg1)) := ⟨Kd.R_below HR2.out hb⟩
      clear hS hb HB2 HR2 HU0
      have HB2 := HB6
      have HR2 := HR6
      have HU0 := HU0'
      clear HB6 HR6 HU0'
      refine hK.out _ _ ⟨x0, x1⟩ (fun hHeld => ?_)
      clear hK K
      refine norm_ (a' := ?_) ?_ ?_
      rotate_left
      · show Act.put _ (some 33) _ = _
        simp only [Act.put, List.setIfInBounds_toArray, List.set_cons_zero, List.set_cons_succ, i64_w, i32_w]
        rfl
      refine pure_ (i := 13) (N := some 34) (v := ?_) (a' := ?_) #[true, true, true, true, true, true, true, true, true, true, true, true, true, true, false, false, false] rfl rfl (any_of HT_.out (by kernel_rfl)) (fun _ _ _ h => h) (Or.inl ⟨by rfl, ?_⟩) ?_ ?_
      rotate_left
      · intro w'
        go_simp
        with_reducible rfl
      rotate_left
      · simp only [Act.put, List.setIfInBounds_toArray, List.set_cons_zero, List.set_cons_succ, i64_w, i32_w]
        rfl
      refine one_ (i := 14) (N := some 35) #[true, true, true, true, true, true, true, true, true, true, true, true, true, true, true, false, false] rfl rfl (one_of HT_.out (by kernel_rfl)) (by decide) (fun K hK => ?_)
      refine value_ (w1 := ?_) (v := ?_) (by rfl) rfl ?_ ?_
      rotate_left 2
      · go_simp
        constructor
        · rfl
        · rfl
      refine hK.out _ _ ⟨((below_alloc (Below.refl _ _) _).cell (World.block_lt_of_cell? _ _ x0)).trans x0, ((below_alloc (Below.refl _ _) _).cell (World.block_lt_of_cell? _ _ x1)).trans x1⟩ (fun hHeld => ?_)
      clear hK K
      refine norm_ (a' := ?_) ?_ ?_
      rotate_left
      · show Act.put _ (some 35) _ = _
        simp only [Act.put, List.setIfInBounds_toArray, List.set_cons_zero, List.set_cons_succ, i64_w, i32_w]
        rfl
      refine one_ (i := 15) (N := some 36) #[true, true, true, true, true, true, true, true, true, true, true, true, true, true, true, true, false] rfl rfl (one_of HT_.out (by kernel_rfl)) (by decide) (fun K hK => ?_)
      have hty := Kd.R_typed HR2.out
      refine Kd.R_append_step k43 (w0 := w2) w2.heap.size (by rfl) (.tmp 21) (.tmp 35) 38 43 (.agg #[.slice none 0 0, .slice none 0 0]) 48 rfl Tryz.underlying38 info43 rfl (by decide) (by omega) vb ((pgs.take i).map pg1) (pg1 p) [.slice B0 p.f0.length d0, .slice B1 p.f1.length d1] (fun _ => True) (fun k => True ∧ some k ≠ vb.ownBlock) rfl rfl ?aP (fun _ hk => hk) ?aF ?aO ?aB ?aS ?aL ?_
      (case aP => exact k43_mkM _ _ _ (pg1 p) (off43 HU0.out hty) (off43 HU1.out hty))
      (case aB => exact HB2.out)
      (case aF => exact (fun _ _ => trivial))
      (case aO => exact HR2.out)
      (case aS => exact HB2.out.size)
      (case aL => rw [List.length_map, List.length_take]; have := hN20.out; omega)
      intro v1 w8 ho hb hg hat
      have x0' := (hb.cell (World.block_lt_of_cell? _ _ (show w2.cell? _ = _ from y0.out))).trans y0.out
      have x1' := (hb.cell (World.block_lt_of_cell? _ _ (show w2.cell? _ = _ from y1.out))).trans y1.out
      refine hK.out _ _ ⟨x0', x1'⟩ (fun hHeld => ?_)
      clear hK K
      refine norm_ (a' := ?_) ?_ ?_
      rotate_left
      · show Act.put _ (some 36) _ = _
        simp only [Act.put, List.setIfInBounds_toArray, List.set_cons_zero, List.set_cons_succ, i64_w, i32_w]
        rfl
      refine pure_ (i := 16) (N := some 5) (v := ?_) (a' := ?_) #[true, true, true, true, true, true, true, true, true, true, true, true, true, true, true, true, true] rfl rfl (any_of HT_.out (by kernel_rfl)) (fun _ _ _ h => h) (Or.inl ⟨by rfl, ?_⟩) ?_ ?_
      rotate_left
      · intro w'
        go_simp
        with_reducible rfl
      rotate_left
      · simp only [Act.put, List.setIfInBounds_toArray, List.set_cons_zero, List.set_cons_succ, i64_w, i32_w]
        rfl
      refine done_ (done_of HT_.out (by kernel_rfl)) ?_
      have HRN := Aside0.mk ho
      have HBN := Aside0.mk hb
      clear ho hb hg hat hty
      go_wp2
      go_roundg (gk - 1)
      case measure => have := HI.out; have := HLT.out; omega
      case rel => exact ⟨i + 1, _, rfl, congrArg (Value.int .i64) (wrap_nat (by have := hN20.out; have := HLT.out; omega)), ⟨by have := HI.out; have := HLT.out; omega⟩, HBN, ⟨by rw [HPT.out]; exact HRN.out⟩⟩
end Go.Proofs.YtbapfjjegbbmfaaGreatDoor.PGatherAlone
