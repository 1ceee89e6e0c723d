/-
  OrderPages answers true of any tokens, pages, offset and order that lie in the world, and writes nothing old. Conditions: what the arguments read as; their lengths.
-/
import Derived.Test.YtbapfjjegbbmfaaGreatDoorIndex
import Derived.Test.YtbapfjjegbbmfaaGreatDoorEz
namespace Go.Proofs.YtbapfjjegbbmfaaGreatDoor.POrderPages
open Go.RowKit Go.Proofs.YtbapfjjegbbmfaaGreatDoorW.PrintWords Go.Proofs.YtbapfjjegbbmfaaGreatDoorW.PrintLast Go.Proofs.YtbapfjjegbbmfaaGreatDoorW.PrintMore
open Go.Maps
attribute [local go_sem high] eqA33 eqA53

theorem own_f {n0 : List S53} {pl : List S33} (hn : n0.length < 4398046511104) (hp : pl.length ≤ 300) : stylusref23_Own.f n0 pl = some (n0, pl) := by
  have h1 : ([] : List S53).length + n0.length < 4398046511104 := by simpa using hn
  have h2 : ([] : List S33).length + pl.length < 5864062014805 := by simp; omega
  simp only [stylusref23_Own.f, Option.bind_some, if_pos h1, if_pos h2, List.nil_append]
theorem mid_facts {w w2 w3 : World} {o1 o2 : Obj} (hb6 : Below (w.alloc o1).heap.size (w.alloc o1) w2) (hb7 : Below (w2.alloc o2).heap.size (w2.alloc o2) w3) :
    Below w.heap.size w w3 ∧ Below w2.heap.size w2 w3 ∧ w3.heap[w.heap.size]? = some o1 ∧ w3.heap[w2.heap.size]? = some o2 := by
  have e1 : (w.alloc o1).heap.size = w.heap.size + 1 := by simp
  have e2 : (w2.alloc o2).heap.size = w2.heap.size + 1 := by simp
  have s2 := hb6.size
  have B2 : Below w2.heap.size w2 w3 := (below_alloc (Below.refl _ _) o2).trans (hb7.mono (by omega))
  have B1 : Below w.heap.size w w3 := ((below_alloc (Below.refl _ _) o1).trans (hb6.mono (by omega))).trans (B2.mono (by omega))
  refine ⟨B1, B2, ?_, ?_⟩
  · rw [B2.block _ (by omega), hb6.block _ (by omega)]
    exact (MapKept.heap_alloc w o1).1
  · rw [hb7.block _ (by omega)]
    exact (MapKept.heap_alloc w2 o2).1
theorem own_below {w3 W : World} {b n : Nat} {D : DataW Unit} (h : w3.ownsMap Tryz.prog 33 (plainElem Tryz.prog 3) b n D) (hb : Below w3.heap.size w3 W) : W.ownsMap Tryz.prog 33 (plainElem Tryz.prog 3) b n D := by
  have hlt := h.lt
  obtain ⟨es, clock, h1, h2⟩ := h
  exact ⟨es, clock, (hb.block b hlt).trans h1, h2⟩
theorem blk_below {w3 W : World} {g : Nat} {o : Obj} (h : w3.heap[g]? = some o) (hb : Below w3.heap.size w3 W) : W.heap[g]? = some o := (hb.block g (Array.getElem?_eq_some_iff.1 h).1).trans h
theorem s33_ext {a b : S33} (h0 : a.f0 = b.f0) (h1 : a.f1 = b.f1) (h2 : a.f2 = b.f2) : a = b := by
  obtain ⟨a0, a1, a2⟩ := a
  obtain ⟨b0, b1, b2⟩ := b
  simp only at h0 h1 h2
  rw [h0, h1, h2]
theorem s33_eq {a b : S33} (h : a = b) : (a.f0 == b.f0 && (a.f1 == b.f1 && (a.f2 == b.f2))) = true := by subst h; simp
theorem s33_ne {a b : S33} (h : a ≠ b) : (a.f0 == b.f0 && (a.f1 == b.f1 && (a.f2 == b.f2))) = false := by
  cases he : (a.f0 == b.f0 && (a.f1 == b.f1 && (a.f2 == b.f2))) with
  | false => rfl
  | true =>
    simp only [Bool.and_eq_true, beq_iff_eq] at he
    exact absurd (s33_ext he.1 he.2.1 he.2.2) h
theorem look33 {W : World} {b n m : Nat} {pl : List S33} {i f : Nat} (hO : W.ownsMap Tryz.prog 33 (plainElem (H := Unit) Tryz.prog 3) b n (Dm pl m)) (hw : Wf33 pl) (hfe : rd_T33 pl (f : Nat) = rd_T33 pl (i : Nat)) (hfn : ∀ t : Nat, t < f → rd_T33 pl (t : Nat) ≠ rd_T33 pl (i : Nat)) (hfm : f < m) :
    (Instr.lookup 30 (.map (some b)) (.agg #[.int .i64 (rd_T33 pl (i : Nat)).f0, .int .i64 (rd_T33 pl (i : Nat)).f1, .int .i64 (rd_T33 pl (i : Nat)).f2]) true).run Tryz.prog W = .ok (.tuple #[.int .i64 (f : Nat), .bool true]) W := by
  obtain ⟨v, ps, h1, h2⟩ := hO.look_ok law33 Tryz.underlying30 (zero3 W) (plainElem_int (q := .i64) (a := 0) Tryz.underlying3 (by decide)) (key33 (hw i))
  obtain ⟨c, rfl, hc, _⟩ := plainElem_int_inv Tryz.underlying3 h2
  have h3 := congrArg Prod.fst hc
  simp only [Dm_at hw (hw i) hfe hfn m hfm, DataW.lit.injEq, Lit.int.injEq, true_and] at h3
  have h4 : Maps.has (Dm pl m) (kl (rd_T33 pl (i : Nat))) = true := (Dm_has hw (hw i) _).2 ⟨f, hfm, hfe⟩
  rw [h4, ← h3] at h1
  exact h1
/-- What the inner loop has found: of the places behind one, the first that says what i says. -/
structure Fd (pl : List S33) (i f : Nat) (j : Int) (g : Nat) : Prop where
  lo : -1 ≤ j
  jf : j < f
  fi : f ≤ i
  gj : (g : Int) = j + 1
  eq : rd_T33 pl (f : Nat) = rd_T33 pl (i : Nat)
  no : ∀ t : Nat, j < t → t < f → rd_T33 pl (t : Nat) ≠ rd_T33 pl (i : Nat)
theorem Fd.start (pl : List S33) (i : Nat) : Fd pl i i ((i : Int) - 1) i := ⟨by omega, by omega, Nat.le_refl _, by omega, rfl, fun t h1 h2 => by omega⟩
theorem Fd.hit {pl : List S33} {i f g : Nat} {j : Int} (h : Fd pl i f j g) (hj : 0 ≤ j) (he : rd_T33 pl j = rd_T33 pl (i : Nat)) : Fd pl i j.toNat (j - 1) (g - 1) := by
  obtain ⟨m, rfl⟩ : ∃ m : Nat, j = m := ⟨j.toNat, by omega⟩
  have h1 := h.jf; have h2 := h.fi; have h3 := h.gj
  exact ⟨by omega, by simp only [Int.toNat_natCast]; omega, by simp only [Int.toNat_natCast]; omega, by omega, by simpa using he, fun t a b => by simp only [Int.toNat_natCast] at b; omega⟩
theorem Fd.miss {pl : List S33} {i f g : Nat} {j : Int} (h : Fd pl i f j g) (hj : 0 ≤ j) (he : rd_T33 pl j ≠ rd_T33 pl (i : Nat)) : Fd pl i f (j - 1) (g - 1) := by
  obtain ⟨m, rfl⟩ : ∃ m : Nat, j = m := ⟨j.toNat, by omega⟩
  have h1 := h.jf; have h2 := h.fi; have h3 := h.gj
  refine ⟨by omega, by omega, h2, by omega, h.eq, fun t a b => ?_⟩
  by_cases ht : t = m
  · subst ht; exact he
  · exact h.no t (by omega) b
theorem Fd.first {pl : List S33} {i f g : Nat} {j : Int} (h : Fd pl i f j g) (hj : ¬ 0 ≤ j) : rd_T33 pl (f : Nat) = rd_T33 pl (i : Nat) ∧ ∀ t : Nat, t < f → rd_T33 pl (t : Nat) ≠ rd_T33 pl (i : Nat) :=
  ⟨h.eq, fun t ht => h.no t (by omega) ht⟩
set_option maxRecDepth 100000 in
set_option maxHeartbeats 8000000 in
theorem law_calls (l0 : List S51) (A0 : Option Addr) (c0 : Nat) (l1 : List Int) (A1 : Option Addr) (c1 : Nat) (x : Int) (n0 : List S53) (An : Option Addr) (cn : Nat) (pl : List S33) (Ap : Option Addr) (cp : Nat) (w : World)
    (hr0 : Kd.C k51 w A0 l0.length l0) (hc0 : l0.length ≤ c0) (hr1 : Kd.C (Kd.int .i64) w A1 l1.length l1) (hc1 : l1.length ≤ c1) (hrn : Kd.C k53 w An n0.length n0) (hcn : n0.length ≤ cn) (hrp : Kd.C k33 w Ap pl.length pl) (hcp : pl.length ≤ cp)
    (hn : n0.length < 4398046511104) (hw : Wf33 pl) (k : Nat) (r : Int) (hp1 : order_Page.f k l0 l1 x = some r) (hp2 : stylusref23_Page.f k l0 l1 x = some r) (hs : stylusref23_Same.f k n0 pl n0 pl = some true) :
    Calls Tryz.prog 3 #[.slice A0 l0.length c0, .slice A1 l1.length c1, .int .i64 x, .agg #[.slice An n0.length cn, .slice Ap pl.length cp]] w fun e w' => e = .returned (.bool true) ∧ Below w.heap.size w w' := by
  have hu27 := Tryz.underlying27
  have hu33 := Tryz.underlying33
  have HR0 := Aside0.mk hr0; have HC0 := Aside0.mk hc0; have HR1 := Aside0.mk hr1; have HC1 := Aside0.mk hc1
  have HRn := Aside0.mk hrn; have HCn := Aside0.mk hcn; have HRp := Aside0.mk hrp; have HCp := Aside0.mk hcp
  have HN := Aside0.mk hn; have HW := Aside0.mk hw; have HP1 := Aside0.mk hp1; have HP2 := Aside0.mk hp2; have HS := Aside0.mk hs
  clear hr0 hc0 hr1 hc1 hrn hcn hrp hcp hn hw hp1 hp2 hs
  go_enter Tryz.func3, Tryz.ntmps3
  go_wp2_with (first
    | (go_at_call 5; refine (Go.X.Ents.awake_calls _).mono ?_; rintro e w1 ⟨rfl, hb5⟩)
    | (go_at_call 6; refine (stylusref23_Own.calls _ _ n0 _ _ pl n0 pl _ (Kd.C_below HRn.out (below_alloc (Below.refl _ _) _)) HCn.out (Kd.C_below HRp.out (below_alloc (Below.refl _ _) _)) HCp.out (own_f HN.out (by omega))).mono ?_; rintro e w2 ⟨v0, v1, rfl, R0, R1, hb6⟩; obtain ⟨B0, d0, rfl, hd0, hC0⟩ := Kd.R_reads R0; obtain ⟨B1, d1, rfl, hd1, hC1⟩ := Kd.R_reads R1)
    | (go_at_call 7; refine (index_calls _ _ _ pl _ (Kd.C_below hC1 (below_alloc (Below.refl _ _) _)) hd1 (by omega) HW.out).mono ?_; rintro e w3 ⟨bm, rfl, hbm, hown, hb7⟩)
    | fail)
  · go_ret; exact ⟨rfl, (below_alloc (Below.refl _ _) _).trans (hb5.mono (by simp))⟩
  · obtain ⟨BA, BB, hX, hO⟩ := mid_facts hb6 hb7
    have hpl : pl.length ≤ 300 := by omega
    clear R0 R1
    have HX := Aside0.mk hX; have HO := Aside0.mk hO; have HBA := Aside0.mk BA; have HBB := Aside0.mk BB; have HC0_ := Aside0.mk hC0; have HC1_ := Aside0.mk hC1; have Hown := Aside0.mk hown
    have Hd0 := Aside0.mk hd0; have Hd1 := Aside0.mk hd1
    clear hX hO BA BB hC0 hC1 hown hb6 hb7 hbm hd0 hd1
    go_loopg [11, 12] pl.length (fun gk v11 v12 wr => ∃ i : Nat, v12 = .int .i64 i ∧ v11 = .int .i64 (cnt pl i) ∧ Aside0 (i + gk = pl.length) ∧ Aside0 (Below w3.heap.size w3 wr))
    case atStart => exact ⟨0, rfl, rfl, ⟨by omega⟩, ⟨Below.refl _ _⟩⟩
    case round =>
      obtain ⟨i, rfl, rfl, hi, hB⟩ := hrel
      have hi := hi.out
      have hcn := cnt_le pl i
      have cx0 : wr.cell? ⟨w.heap.size, 0, none⟩ = some (.slice An n0.length cn) := (blk_cell (blk_below HX.out hB.out) 0).trans rfl
      have cx1 : wr.cell? ⟨w.heap.size, 1, none⟩ = some (.slice Ap pl.length cp) := (blk_cell (blk_below HX.out hB.out) 1).trans rfl
      by_cases hlt : i < pl.length
      · have hiB : wr.cell? ⟨w.heap.size, 1, none⟩ = some (.slice Ap pl.length cp) := cx1
        go_wp2
        go_loopg [13, 14] i (fun g v13 v14 wq => ∃ (f : Nat) (j : Int), v13 = .int .i64 f ∧ v14 = .int .i64 j ∧ Aside0 (Fd pl i f j g) ∧ Aside0 (Below w3.heap.size w3 wq))
        case atStart => exact ⟨i, (i : Int) - 1, rfl, by go_num, ⟨Fd.start pl i⟩, hB⟩
        case round =>
          obtain ⟨f, j, rfl, rfl, hF, hQ⟩ := hrel
          clear cx0 cx1 hiB
          have q0 : wr.cell? ⟨w.heap.size, 0, none⟩ = some (.slice An n0.length cn) := (blk_cell (blk_below HX.out hQ.out) 0).trans rfl
          have q1 : wr.cell? ⟨w.heap.size, 1, none⟩ = some (.slice Ap pl.length cp) := (blk_cell (blk_below HX.out hQ.out) 1).trans rfl
          by_cases hj : 0 ≤ j
          · have F1 := hF.out.jf; have F2 := hF.out.fi; have F3 := hF.out.gj
            have hC := Kd.C_below HRp.out (HBA.out.trans (hQ.out.mono HBA.out.size))
            obtain ⟨ad, e0, hx0, hx1, hx2⟩ := at_T33 hC (i : Int) (by omega) (by omega)
            obtain ⟨ad', e1, hy0, hy1, hy2⟩ := at_T33 hC j hj (by omega)
            rw [e0] at e1
            cases e1
            subst e0
            clear hC
            simp only [Int.toNat_natCast] at hx0 hx1 hx2
            by_cases he : rd_T33 pl j = rd_T33 pl (i : Nat)
            · have hb := s33_eq he
              have He := Aside0.mk he
              clear he
              go_wp2
              repeat (go_quiet (fail); try go_wp2)
              go_roundg (gk - 1)
              case measure => omega
              case rel => exact ⟨j.toNat, j - 1, by rw [Int.toNat_of_nonneg hj], rfl, ⟨hF.out.hit hj He.out⟩, ⟨pw_below_drewN hQ.out _⟩⟩
            · have hb := s33_ne he
              have He := Aside0.mk he
              clear he
              go_wp2
              repeat (go_quiet (fail); try go_wp2)
              go_roundg (gk - 1)
              case measure => omega
              case rel => exact ⟨f, j - 1, rfl, rfl, ⟨hF.out.miss hj He.out⟩, ⟨pw_below_drewN hQ.out _⟩⟩
          · have F2 := hF.out.fi
            obtain ⟨hfe, hfn⟩ := hF.out.first hj
            have hC := Kd.C_below HRp.out (HBA.out.trans (hQ.out.mono HBA.out.size))
            obtain ⟨ad, e0, hx0, hx1, hx2⟩ := at_T33 hC (i : Int) (by omega) (by omega)
            subst e0
            clear hC
            simp only [Int.toNat_natCast] at hx0 hx1 hx2
            have hrun := look33 (own_below Hown.out hQ.out) HW.out hfe hfn (show f < pl.length by omega)
            have Hfn := Aside0.mk hfn
            have Hfe := Aside0.mk hfe
            clear hfn hfe
            by_cases hfi : f = i
            · have Hfi := Aside0.mk hfi
              go_wp2
              go_roundg (pl.length - (i + 1))
              case measure => omega
              case rel =>
                have hne : ¬ ∃ t : Nat, t < i ∧ rd_T33 pl (t : Nat) = rd_T33 pl (i : Nat) := by
                  rintro ⟨t, h1, h2⟩
                  exact Hfn.out t (by have := Hfi.out; omega) h2
                exact ⟨i + 1, by go_num, by rw [cnt_new hne]; go_num, ⟨by omega⟩, hQ⟩
            · have Hfi := Aside0.mk hfi
              go_wp2
              go_roundg (pl.length - (i + 1))
              case measure => omega
              case rel => exact ⟨i + 1, by go_num, by rw [cnt_old ⟨f, by have := Hfi.out; omega, Hfe.out⟩], ⟨by omega⟩, hQ⟩
      · have : i = pl.length := by omega
        subst this
        clear hcn
        have hcells := Aside0.mk (fun W (hb : Below w3.heap.size w3 W) => (⟨(blk_cell (blk_below HX.out hb) 0).trans rfl, (blk_cell (blk_below HX.out hb) 1).trans rfl, (blk_cell (blk_below HO.out hb) 0).trans rfl, (blk_cell (blk_below HO.out hb) 1).trans rfl⟩ : W.cell? ⟨w.heap.size, 0, none⟩ = some (.slice An n0.length cn) ∧ W.cell? ⟨w.heap.size, 1, none⟩ = some (.slice Ap pl.length cp) ∧ W.cell? ⟨w2.heap.size, 0, none⟩ = some (.slice B0 n0.length d0) ∧ W.cell? ⟨w2.heap.size, 1, none⟩ = some (.slice B1 pl.length d1)))
        have hup := Aside0.mk (fun W (hb : Below w3.heap.size w3 W) => (⟨HBA.out.trans (hb.mono HBA.out.size), HBB.out.trans (hb.mono HBB.out.size)⟩ : Below w.heap.size w W ∧ Below w2.heap.size w2 W))
        have hszD := Dm_size HW.out pl.length
        go_wp2_with (first
          | (go_at_call 8; refine (order_Page.calls k _ _ l0 _ _ l1 x r _ (Kd.C_below HR0.out (hup.out _ hB.out).1) HC0.out (Kd.C_below HR1.out (hup.out _ hB.out).1) HC1.out HP1.out).mono ?_; rintro e w4 ⟨rfl, hb8⟩; have hB4 := Aside0.mk (hB.out.trans (hb8.mono hB.out.size)); clear hb8)
          | (go_at_call 9; refine (stylusref23_Page.calls k _ _ l0 _ _ l1 x r _ (Kd.C_below HR0.out (hup.out _ hB4.out).1) HC0.out (Kd.C_below HR1.out (hup.out _ hB4.out).1) HC1.out HP2.out).mono ?_; rintro e w5 ⟨rfl, hb9⟩; have hB5 := Aside0.mk (hB4.out.trans (hb9.mono hB4.out.size)); clear hb9; obtain ⟨z0, z1, z2, z3⟩ := hcells.out _ hB5.out; have hlen5 := fun ty => (own_below Hown.out hB5.out).len Tryz.underlying30 ty)
          | (go_at_call 10; refine (stylusref23_Same.calls k _ _ n0 _ _ pl _ _ n0 _ _ pl true _ (Kd.C_below HC0_.out (hup.out _ hB5.out).2) Hd0.out (Kd.C_below HC1_.out (hup.out _ hB5.out).2) Hd1.out (Kd.C_below HRn.out (hup.out _ hB5.out).1) HCn.out (Kd.C_below HRp.out (hup.out _ hB5.out).1) HCp.out HS.out).mono ?_; rintro e w6 ⟨rfl, hb10⟩; have hB6 := Aside0.mk (hB5.out.trans (hb10.mono hB5.out.size)); clear hb10)
          | (go_at_call 5; refine (Go.X.Ents.awake_calls _).mono ?_; rintro e w7 ⟨rfl, hb11⟩; have hB7 := Aside0.mk (hB6.out.trans (hb11.mono hB6.out.size)); clear hb11)
          | fail)
        go_ret
        exact ⟨rfl, (hup.out _ hB7.out).1⟩
  all_goals (go_ret; exact ⟨rfl, (below_alloc (Below.refl _ _) _).trans (hb5.mono (by simp))⟩)
end Go.Proofs.YtbapfjjegbbmfaaGreatDoor.POrderPages
