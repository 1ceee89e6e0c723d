/-
  The iterator over the nodes: what comes of all rounds.
-/
import Derived.Test.YtbapfjjegbbmfaaGreatDoorGa5
import Derived.Deep.CutRange
import Derived.Deep.DeepCutAuto
import Derived.Deep.CutBlock
set_option linter.unusedVariables false
set_option linter.unusedSimpArgs false
namespace Go.Proofs.YtbapfjjegbbmfaaGreatDoor.PGatherAlone
open Go.RowKit Go.Proofs.YtbapfjjegbbmfaaGreatDoorW.PrintWords Go.Proofs.YtbapfjjegbbmfaaGreatDoorW.PrintLast Go.Proofs.YtbapfjjegbbmfaaGreatDoorW.PrintMore

def endF (nl : List S53) (os : List Int) : Int := if 0 < os.length then rd_I os (os.length - 1 : Nat) else nl.length
def wrongF (e i : Int) (x : S53) : Bool := decide (x.f1 < 1) || decide (wrap64 (e - i) < x.f1) || (x.f0 == 46 && !(x.f1 == 1))
/-- The nodes from one on. -/
def iterF (pgs : List S43) (pl : List S33) (nl : List S53) : Nat → Nat → List Int → List S53 → Int × List S51 → Option (Int × List S51)
  | 0, _, os, ks, st => (shutF pgs pl nl.length os.length os ks st).map fun r => r.2.2
  | k + 1, i, os, ks, st => (shutF pgs pl i os.length os ks st).bind fun r =>
    (bodyF pgs pl r.2.2 (rd_T53 nl i) false (wrongF (endF nl r.1) i (rd_T53 nl i))).bind fun st2 =>
      if (rd_T53 nl i).f0 = 46 then iterF pgs pl nl k (i + 1) r.1 r.2.1 st2 else iterF pgs pl nl k (i + 1) (r.1 ++ [wrap64 (i + (rd_T53 nl i).f1)]) (r.2.1 ++ [rd_T53 nl i]) st2
def IterR (pgs : List S43) (pl : List S33) (J : Nat → Int × List S51 → World → Prop) (Jx : World → Prop) (r : Option (Int × List S51)) (e : Ending) (w' : World) : Prop :=
  ∃ v, e = .returned v ∧ ((∃ st m, r = some st ∧ J m st w') ∨ (r = none ∧ Jx w'))
theorem IS.weak {S l ob kb yb : Nat} {ok : Nat → Prop} {os : List Int} {ks : List S53} {W : World} (h : IS S l ob kb yb ok os ks W) : IS S l ob kb yb (fun _ => True) os ks W := by
  obtain ⟨vo, vk, h1, h2, h3, h4, h5⟩ := h
  exact ⟨vo, vk, h1, h2, h3, h4, Kd.R_mono h5 (fun _ _ => trivial)⟩
theorem IS.fresh {S l ob kb yb : Nat} {ok : Nat → Prop} {os : List Int} {ks : List S53} {W : World} (h : IS S l ob kb yb ok os ks W) : IS S l ob kb yb (fun k => k ≠ W.heap.size) os ks W := by
  obtain ⟨vo, vk, h1, h2, h3, h4, h5⟩ := h
  exact ⟨vo, vk, h1, h2, h3, h4, Kd.R_mono (Kd.R_bound h5) (fun k hk => by have := hk.2.2.1; omega)⟩
theorem IS.below {S l ob kb yb : Nat} {ok : Nat → Prop} {os : List Int} {ks : List S53} {W W' : World} (h : IS S l ob kb yb ok os ks W) (hb : Below W.heap.size W W') : IS S l ob kb yb ok os ks W' := by
  obtain ⟨vo, vk, h1, h2, h3, h4, h5⟩ := h
  exact ⟨vo, vk, blk_below h1 hb, blk_below h2 hb, blk_below h3 hb, Kd.R_below h4 hb, Kd.R_below h5 hb⟩
def GB2 (S : Nat) (W3 : World) (ob kb yb xb l : Nat) (x : S53) (vo vk : Value) (W : World) : Prop :=
  W.heap[ob]? = some (.cells #[vo] 23 (0, 0)) ∧ W.heap[kb]? = some (.cells #[vk] 24 (0, 0)) ∧ W.heap[xb]? = some (.cells #[.int .u8 x.f0, .int .i64 x.f1, .int .i64 x.f2, .int .i64 x.f3] 53 (0, 0)) ∧ W.heap[yb]? = some (.cells #[.func (.yield l) #[] #[]] 125 (0, 0)) ∧ KI S W3 W ∧ S ≤ W.heap.size
def GB (S : Nat) (W3 : World) (ob kb yb xb l : Nat) (x : S53) (vo vk : Value) (ks : List S53) (W : World) : Prop := GB2 S W3 ob kb yb xb l x vo vk W ∧ Kd.R k53 53 W S (fun k => k ≠ xb) vk ks
section
variable {S : Nat} {W3 W W' : World} {ob kb yb xb l : Nat} {x : S53} {vo vk : Value} {ks : List S53}
theorem GB2.held (h : GB2 S W3 ob kb yb xb l x vo vk W) : W.cell? ⟨ob, 0, none⟩ = some vo ∧ W.cell? ⟨kb, 0, none⟩ = some vk ∧ W.cell? ⟨xb, 0, none⟩ = some (.int .u8 x.f0) ∧ W.cell? ⟨xb, 1, none⟩ = some (.int .i64 x.f1) ∧ W.cell? ⟨xb, 2, none⟩ = some (.int .i64 x.f2) ∧ W.cell? ⟨xb, 3, none⟩ = some (.int .i64 x.f3) :=
  ⟨(blk_cell h.1 0).trans rfl, (blk_cell h.2.1 0).trans rfl, (blk_cell h.2.2.1 0).trans rfl, (blk_cell h.2.2.1 1).trans rfl, (blk_cell h.2.2.1 2).trans rfl, (blk_cell h.2.2.1 3).trans rfl⟩
theorem GB.held (h : GB S W3 ob kb yb xb l x vo vk ks W) : W.cell? ⟨ob, 0, none⟩ = some vo ∧ W.cell? ⟨kb, 0, none⟩ = some vk ∧ W.cell? ⟨xb, 0, none⟩ = some (.int .u8 x.f0) ∧ W.cell? ⟨xb, 1, none⟩ = some (.int .i64 x.f1) ∧ W.cell? ⟨xb, 2, none⟩ = some (.int .i64 x.f2) ∧ W.cell? ⟨xb, 3, none⟩ = some (.int .i64 x.f3) := h.1.held
theorem GB.le (h : GB S W3 ob kb yb xb l x vo vk ks W) : S ≤ W.heap.size := h.1.2.2.2.2.2
theorem GB.below (h : GB S W3 ob kb yb xb l x vo vk ks W) (hb : Below W.heap.size W W') : GB S W3 ob kb yb xb l x vo vk ks W' := by
  obtain ⟨⟨h1, h2, h3, h4, h5, h6⟩, h7⟩ := h
  exact ⟨⟨blk_below h1 hb, blk_below h2 hb, blk_below h3 hb, blk_below h4 hb, h5.trans (KI.below hb), Nat.le_trans h6 hb.size⟩, Kd.R_below h7 hb⟩
theorem GB.drew (h : GB S W3 ob kb yb xb l x vo vk ks W) : GB S W3 ob kb yb xb l x vo vk ks W.drew := h.below (below_drew1 (Below.refl _ _))
theorem GB2.grown {v : Value} {α : Type} {d : Kd α} {e : Nat} {xs : List α} (h : GB2 S W3 ob kb yb xb l x vo vk W) (hR : d.R e W S (fun _ => True) v xs) (he : e ≠ 51) (h23 : e ≠ 23) (h24 : e ≠ 24) (h125 : e ≠ 125) (hx : some xb ≠ v.ownBlock) (hg : W.grownBy W' v.ownBlock) : GB2 S W3 ob kb yb xb l x vo vk W' := by
  obtain ⟨h1, h2, h3, h4, h5, h6⟩ := h
  exact ⟨blk_grown h1 hg (Kd.R_ne hR h1 h23), blk_grown h2 hg (Kd.R_ne hR h2 h24), blk_grown h3 hg hx, blk_grown h4 hg (Kd.R_ne hR h4 h125), h5.trans (KI.grown hR he hg), Nat.le_trans h6 hg.size⟩
theorem GB.grown1 {v : Value} {os : List Int} (h : GB S W3 ob kb yb xb l x vo vk ks W) (hR : Kd.R (Kd.int .i64) 3 W S (fun _ => True) v os) (hg : W.grownBy W' v.ownBlock) : GB S W3 ob kb yb xb l x vo vk ks W' :=
  ⟨h.1.grown hR (by decide) (by decide) (by decide) (by decide) (Kd.R_ne hR h.1.2.2.1 (by decide)) hg, Kd.R_over' h.2 (Kd.R_typed hR) (by decide) hg⟩
theorem GB.grown2 (h : GB S W3 ob kb yb xb l x vo vk ks W) (hg : W.grownBy W' vk.ownBlock) : GB2 S W3 ob kb yb xb l x vo vk W' :=
  h.1.grown (Kd.R_mono h.2 (fun _ _ => trivial)) (by decide) (by decide) (by decide) (by decide) (fun e => h.2.1 _ e.symm rfl) hg
theorem GB2.put2 (h : GB2 S W3 ob kb yb xb l x vo vk W) (v : Value) : (W.setCell ⟨ob, 0, none⟩ v).heap[kb]? = some (.cells #[vk] 24 (0, 0)) := blk_far h.2.1 (p := ⟨ob, 0, none⟩) (Ne.symm (blk_ne h.1 h.2.1 (by decide))) v
theorem GB2.fin {v u : Value} {os : List Int} (h : GB2 S W3 ob kb yb xb l x vo vk W) (hR : Kd.R (Kd.int .i64) 3 W S (fun _ => True) v os) (hK : Kd.R k53 53 W S (fun _ => True) u ks) (ho : S ≤ ob) (hk : S ≤ kb) :
    IS S l ob kb yb (fun _ => True) os ks ((W.setCell ⟨ob, 0, none⟩ v).setCell ⟨kb, 0, none⟩ u) ∧ KI S W3 ((W.setCell ⟨ob, 0, none⟩ v).setCell ⟨kb, 0, none⟩ u) := by
  obtain ⟨h1, h2, h3, h4, h5, h6⟩ := h
  have n1 : ob ≠ kb := blk_ne h1 h2 (by decide)
  have n2 : ob ≠ yb := blk_ne h1 h4 (by decide)
  have n3 : kb ≠ yb := blk_ne h2 h4 (by decide)
  have a1 := blk_put h1 0 v rfl
  have a2 := blk_far h2 (p := ⟨ob, 0, none⟩) (Ne.symm n1) v
  have a3 := blk_far h4 (p := ⟨ob, 0, none⟩) (Ne.symm n2) v
  exact ⟨⟨_, _, blk_far a1 (p := ⟨kb, 0, none⟩) n1 _, blk_put a2 0 _ rfl, blk_far a3 (p := ⟨kb, 0, none⟩) (Ne.symm n3) _, R_setT (R_setT hR h1 (by decide) 0 _) a2 (by decide) 0 _, R_setT (R_setT hK h1 (by decide) 0 _) a2 (by decide) 0 _⟩, (h5.trans (KI.set h1 (by decide) ho 0 _)).trans (KI.set a2 (by decide) hk 0 _)⟩
end
def it53.T14 : Bool × List (List Nat × List Nat) := (true, [([], []), ([], []), ([], []), ([2], [2]), ([1, 3], [1, 3]), ([4], [4]), ([0, 5], [0, 5]), ([], []), ([], []), ([8], [8]), ([7, 9, 6], [7, 9]), ([6, 10, 0, 1, 2, 3, 4, 5, 6], [6]), ([10, 11, 0, 1, 2, 3, 4, 5, 6, 7, 8, 9, 10, 11], [10])])
def it53.B14 : List Nat := [0, 0, 0, 4, 14, 30, 63, 0, 0, 256, 1023, 2047, 4095]
theorem it53.tab14 : rtab .any (opsOf Tryz.f53 14) = it53.T14 := by kernel_rfl
theorem it53.bits14 : waitsOk it53.T14.2 it53.B14 = true := by kernel_rfl
set_option maxRecDepth 100000 in
set_option maxHeartbeats 8000000 in
theorem iter_calls (X : Nat → Prop) (l gb b33 : Nat) (W0 : World) (An : Option Addr) (cn : Nat) (nl : List S53) (pgs : List S43) (pl : List S33) (J : Nat → Int × List S51 → World → Prop) (Jx : World → Prop) (w : World) (hY : YOK X l pgs pl J Jx) (hA : ∀ m st W W', J m st W → KI w.heap.size W W' → J m st W') (hX : ∀ k, w.heap.size ≤ k → ¬ X k)
    (hg : ∀ m st W, J m st W → W.cell? ⟨b33, 0, none⟩ = some (.pointer (some ⟨gb, 0, none⟩)) ∧ W.cell? ⟨gb, 0, none⟩ = some (.slice An nl.length cn) ∧ Below W0.heap.size W0 W) (hn : Kd.C k53 W0 An nl.length nl) (hnl : nl.length ≤ 200) (st : Int × List S51) (hJ : J 0 st w) :
    Calls Tryz.prog 53 #[.func (.yield l) #[] #[], .pointer (some ⟨b33, 0, none⟩)] w (IterR pgs pl J Jx (iterF pgs pl nl nl.length 0 [] [] st)) := by
  have hu53 := Tryz.underlying53
  have hu63 := Tryz.underlying63
  have hu27 := Tryz.underlying27
  have HY := Aside0.mk hY
  have HA := Aside0.mk hA
  have HX := Aside0.mk hX
  have HG := Aside0.mk hg
  have HN := Aside0.mk hn
  have HJ := Aside0.mk hJ
  clear hY hA hX hg hn hJ
  obtain ⟨wa, hwa⟩ : ∃ wa, ((w.alloc (.cells #[.func (.yield l) #[] #[]] 125)).alloc (.cells #[.slice none 0 0] 23)).alloc (.cells #[.slice none 0 0] 24) = wa := ⟨_, rfl⟩
  have hba : Below w.heap.size w wa := by rw [← hwa]; exact below_alloc (two_alloc _ _ _) _
  have hIa : IS w.heap.size l (w.heap.size + 1) (w.heap.size + 1 + 1) w.heap.size (fun _ => True) [] [] wa := by
    rw [← hwa]
    refine ⟨.slice none 0 0, .slice none 0 0, blk_alloc ?_ _, ?_, blk_alloc (blk_alloc (blk_new _ _) _) _, Kd.R_nil _ _ _ _ _, Kd.R_nil _ _ _ _ _⟩
    · have := blk_new (w.alloc (.cells #[.func (.yield l) #[] #[]] 125)) (.cells #[.slice none 0 0] 23); simpa using this
    · have := blk_new ((w.alloc (.cells #[.func (.yield l) #[] #[]] 125)).alloc (.cells #[.slice none 0 0] 23)) (.cells #[.slice none 0 0] 24); simpa using this
  have hJa := HA.out _ _ _ _ HJ.out (KI.below hba)
  have ga := HG.out _ _ _ hJa
  have HIa := Aside0.mk hIa
  have HJa := Aside0.mk hJa
  have ga1 := ga.1
  have ga2 := ga.2.1
  rw [← hwa] at ga1 ga2
  have HWA := Aside0.mk hwa
  clear hIa hJa ga hba hwa
  go_enter Tryz.func53, Tryz.ntmps53
  go_wp2
  go_loopg [17] nl.length (fun gk v17 wr => ∃ (i : Nat) (os : List Int) (ks : List S53) (st1 : Int × List S51) (m : Nat), v17 = .int .i64 i ∧ Aside0 (i + gk = nl.length) ∧ Aside0 (IS w.heap.size l (w.heap.size + 1) (w.heap.size + 1 + 1) w.heap.size (fun _ => True) os ks wr) ∧ Aside0 (J m st1 wr) ∧ Aside0 (ks.length = os.length) ∧ Aside0 (m + os.length ≤ 2 * i) ∧
    Aside0 (iterF pgs pl nl nl.length 0 [] [] st = iterF pgs pl nl gk i os ks st1))
  case atStart =>
    rw [HWA.out]
    exact ⟨0, [], [], st, 0, rfl, ⟨by omega⟩, HIa, HJa, ⟨rfl⟩, ⟨Nat.le_refl _⟩, ⟨rfl⟩⟩
  case round =>
    clear ga1 ga2 HIa HJa HWA
    obtain ⟨i, os, ks, st1, m, rfl, hi, hIS, hJ1, hkl, hm, hF⟩ := hrel
    have hi := hi.out
    have gr := HG.out _ _ _ hJ1.out
    by_cases hlt : i < nl.length
    · obtain ⟨k, rfl⟩ : ∃ k, gk = k + 1 := ⟨gk - 1, by omega⟩
      obtain ⟨ad, e0, hx0, hx1, hx2, hx3⟩ := at_T53 HN.out (i : Int) (by omega) (by omega)
      subst e0
      replace hx0 := (gr.2.2.cell (World.block_lt_of_cell? _ _ hx0)).trans hx0
      replace hx1 := (gr.2.2.cell (World.block_lt_of_cell? _ _ hx1)).trans hx1
      replace hx2 := (gr.2.2.cell (World.block_lt_of_cell? _ _ hx2)).trans hx2
      replace hx3 := (gr.2.2.cell (World.block_lt_of_cell? _ _ hx3)).trans hx3
      simp only [Int.toNat_natCast] at hx0 hx1 hx2 hx3
      have HF := Aside0.mk (show iterF pgs pl nl nl.length 0 [] [] st = _ from hF.out)
      clear hF
      obtain ⟨x, hx⟩ : ∃ x, x = rd_T53 nl (i : Nat) := ⟨_, rfl⟩
      rw [← hx] at hx0 hx1 hx2 hx3
      have HXX := Aside0.mk hx
      clear hx
      have hS := shut_calls X (fun k => k ≠ wr.heap.size) w.heap.size l (w.heap.size + 1) (w.heap.size + 1 + 1) w.heap.size pgs pl J Jx HY.out HA.out HX.out (by omega) (by omega) (by omega) (i : Int) m st1 os ks (wr.alloc (.cells #[.int .u8 x.f0, .int .i64 x.f1, .int .i64 x.f2, .int .i64 x.f3] 53)) (hIS.out.fresh.below (below_alloc (Below.refl _ _) _)) (HA.out _ _ _ _ hJ1.out (KI.below (below_alloc (Below.refl _ _) _))) hkl.out (by have := hm.out; omega)
      have HSH := Aside0.mk hS
      clear hS
      go_wp2_with (go_at_call 54; refine Aside0.out ?_)
      refine ⟨HSH.out.mono ?_⟩
      clear HSH
      rintro e W2 ⟨b, rfl, hcase⟩
      rcases hcase with ⟨rfl, os2, ks2, st2, m2, hsh, hI2, hJ2, hk2, hm2, hKp⟩ | ⟨rfl, hsh, hjx⟩
      rotate_left
      · have HSH := Aside0.mk hsh
        have HJX := Aside0.mk hjx
        clear hsh hjx
        go_wp2
        first | go_end0 | ((try simp only [Exit.inBlock, Exit.then]); refine bodyPost_ret (results_none rfl _ _ _) rfl ?_)
        exact ⟨_, rfl, .inr ⟨by rw [HF.out, iterF, HSH.out]; rfl, HJX.out⟩⟩
      have hxb := hKp.blk (blk_new wr (.cells #[.int .u8 x.f0, .int .i64 x.f1, .int .i64 x.f2, .int .i64 x.f3] 53)) (by
        have hS2 : w.heap.size + 1 + 1 < wr.heap.size := by obtain ⟨_, _, _, q, _⟩ := hIS.out; exact blk_lt q
        rintro (h | h | h)
        · exact HX.out _ (by omega) h
        · omega
        · omega) (fun cs h => by cases h)
      have g2 := HG.out _ _ _ hJ2
      have g21 := g2.1
      have g22 := g2.2.1
      have HSH := Aside0.mk hsh
      have HI2 := Aside0.mk hI2
      have HJ2 := Aside0.mk hJ2
      have HK2 := Aside0.mk hk2
      have HM2 := Aside0.mk hm2
      have HKP := Aside0.mk hKp
      have HXB := Aside0.mk hxb
      clear hsh hI2 hJ2 hk2 hm2 hKp hxb gr g2 hx0 hx1 hx2 hx3
      obtain ⟨vo, vk, b1, b2, b3, r1, r2⟩ := HI2.out
      obtain ⟨Ao, co, rfl, hco, Co⟩ := Kd.R_reads r1
      obtain ⟨Ak, ck, rfl, hck, Ck⟩ := Kd.R_reads r2
      rw [HK2.out] at r2 hck Ck b2
      have R1 := Aside0.mk r1
      have R2 := Aside0.mk r2
      have B1 := Aside0.mk b1
      have B2 := Aside0.mk b2
      have B3 := Aside0.mk b3
      obtain ⟨N, hN⟩ : ∃ N, N = os2.length := ⟨_, rfl⟩
      have c1 : W2.cell? ⟨w.heap.size + 1, 0, none⟩ = some (.slice Ao os2.length co) := (blk_cell b1 0).trans rfl
      rw [← hN] at c1 Co hco
      have HNN := Aside0.mk hN
      have HCO := Aside0.mk Co
      have hN500 : N ≤ 500 := by have := HM2.out; have := hm.out; omega
      clear b1 b2 b3 r1 r2 hN Ck hck Co
      go_upto_if 34 with fail
      go_cut [8, 17] from 17 to 82 (fun v8 v17 wx => v8 = .int .i64 (endF nl os2) ∧ v17 = .int .i64 i ∧ wx = W2)
      case first =>
        by_cases h : 0 < N
        · obtain ⟨n, hn⟩ : ∃ n : Nat, n = N - 1 := ⟨_, rfl⟩
          obtain ⟨ao, ea, d0⟩ := at_I HCO.out (n : Nat) (by omega) (by omega)
          subst ea
          have hwn : wrap64 ((N : Int) - 1) = n := by unfold wrap64; omega
          have hN1 : n < N := by omega
          have HE := Aside0.mk (show endF nl os2 = rd_I os2 n by unfold endF; rw [if_pos (by rw [← HNN.out]; exact h), hn, HNN.out])
          simp only [Int.toNat_natCast] at d0
          clear hn hN500
          go_wp2_with fail
          go_meet
          case rel => exact ⟨by rw [HE.out], rfl, rfl⟩
        · have HE := Aside0.mk (show endF nl os2 = nl.length by unfold endF; rw [if_neg (by rw [← HNN.out]; exact h)])
          have hN0 : N = 0 := by omega
          go_wp2_with fail
          go_meet
          case rel => exact ⟨by rw [HE.out], rfl, rfl⟩
      case rest =>
        obtain ⟨rfl, rfl, rfl⟩ := hcut
        obtain ⟨e, he⟩ : ∃ e, e = endF nl os2 := ⟨_, rfl⟩
        rw [← he]
        have HE := Aside0.mk he
        have x0 : wc.cell? ⟨wr.heap.size, 0, none⟩ = some (.int .u8 x.f0) := (blk_cell HXB.out 0).trans rfl
        have x1 : wc.cell? ⟨wr.heap.size, 1, none⟩ = some (.int .i64 x.f1) := (blk_cell HXB.out 1).trans rfl
        have x2 : wc.cell? ⟨wr.heap.size, 2, none⟩ = some (.int .i64 x.f2) := (blk_cell HXB.out 2).trans rfl
        have x3 : wc.cell? ⟨wr.heap.size, 3, none⟩ = some (.int .i64 x.f3) := (blk_cell HXB.out 3).trans rfl
        clear he
        go_upto_region 11 with fail
        go_cut [9, 17] from 17 to 82 (fun v9 v17 wx => v9 = .bool (wrongF e i x) ∧ v17 = .int .i64 i ∧ wx = wc)
        case first =>
          have HWF := Aside0.mk (show wrongF e i x = (decide (x.f1 < 1) || decide (wrap64 (e - i) < x.f1) || (x.f0 == 46 && !(x.f1 == 1))) from rfl)
          by_cases q1 : x.f1 < 1
          · have b1 := decide_eq_true q1
            clear q1
            go_wp2_with fail
            go_meet
            case rel => exact ⟨by rw [HWF.out, b1]; rfl, rfl, rfl⟩
          have b1 := decide_eq_false q1
          by_cases q2 : wrap64 (e - i) < x.f1
          · have b2 := decide_eq_true q2
            clear q1 q2
            go_wp2_with fail
            go_meet
            case rel => exact ⟨by rw [HWF.out, b1, b2]; rfl, rfl, rfl⟩
          have b2 := decide_eq_false q2
          by_cases q3 : x.f0 = 46
          rotate_left
          · have b3 : (x.f0 == 46) = false := beq_eq_false_iff_ne.mpr q3
            clear q1 q2 q3
            go_wp2_with fail
            go_meet
            case rel => exact ⟨by rw [HWF.out, b1, b2, b3]; rfl, rfl, rfl⟩
          have b3 : (x.f0 == 46) = true := beq_iff_eq.mpr q3
          clear q1 q2 q3
          go_wp2_with fail
          go_meet
          case rel => exact ⟨by rw [HWF.out, b1, b2, b3]; rfl, rfl, rfl⟩
        case rest =>
          obtain ⟨rfl, rfl, rfl⟩ := hcut
          obtain ⟨wb, hwb⟩ : ∃ wb, wb = wrongF e i x := ⟨_, rfl⟩
          rw [← hwb]
          have HWB := Aside0.mk hwb
          obtain ⟨fn, tmps, assign, body, hy, hR⟩ := HY.out m2 st2 x false wb wc HJ2.out (by have := HM2.out; have := hm.out; omega)
          have HRD := Aside0.mk hR
          have yc : wc.cell? ⟨w.heap.size, 0, none⟩ = some (.func (.yield l) #[] #[]) := (blk_cell B3.out 0).trans rfl
          have HIK := Aside0.mk hi
          have HI200 := Aside0.mk (show i ≤ 200 by omega)
          have hsz : w.heap.size + 1 + 1 < wr.heap.size := by obtain ⟨_, _, _, q, _⟩ := hIS.out; exact blk_lt q
          have HSZ := Aside0.mk hsz
          clear hwb hR hnl hlt hi hN500 g21 g22 hsz
          iterate 3 (first | go_values | go_skip | go_step)
          refine (wpIn_wide (n := 0)).1 ?_
          gi_wp2
          refine ⟨rfl, HRD.out.mono ?_⟩
          rintro e1 W3 ⟨b, rfl, hcase⟩
          clear hy HRD yc x0 x1 x2 x3 c1
          rcases hcase with ⟨rfl, st3, hbd, hJ3, hk3⟩ | ⟨rfl, hbd, hjx⟩
          rotate_left
          · have HF2 := Aside0.mk (show iterF pgs pl nl nl.length 0 [] [] st = none by
              rw [HF.out]; simp only [iterF, HSH.out, Option.bind_some, ← HXX.out, ← HE.out, ← HWB.out, hbd, Option.bind_none])
            have HJX := Aside0.mk hjx
            clear hbd hjx
            gi_wp2
            go_wp2
            first | go_end0 | ((try simp only [Exit.inBlock, Exit.then]); refine bodyPost_ret (results_none rfl _ _ _) rfl ?_)
            exact ⟨_, rfl, .inr ⟨HF2.out, HJX.out⟩⟩
          have HF2 := Aside0.mk (show iterF pgs pl nl nl.length 0 [] [] st = if x.f0 = 46 then iterF pgs pl nl k (i + 1) os2 ks2 st3 else iterF pgs pl nl k (i + 1) (os2 ++ [wrap64 (i + x.f1)]) (ks2 ++ [x]) st3 by
            rw [HF.out]; simp only [iterF, HSH.out, Option.bind_some, ← HXX.out, ← HE.out, ← HWB.out, hbd])
          have hsz := HSZ.out
          have HI3 := Aside0.mk (HI2.out.kp hk3 HX.out (by omega) (by omega) (by omega))
          have HXB3 := Aside0.mk (hk3.blk HXB.out (HX.out _ (by omega)) (fun cs h => by cases h))
          have HJ3 := Aside0.mk hJ3
          have x0 : W3.cell? ⟨wr.heap.size, 0, none⟩ = some (.int .u8 x.f0) := (blk_cell HXB3.out 0).trans rfl
          clear hbd hJ3 hk3 hIS hJ1 HI2 HJ2 HXB HKP R1 R2 B1 B2 B3 hco
          by_cases hq : x.f0 = 46
          · have HF3 := Aside0.mk (HF2.out.trans (if_pos hq))
            have b1 : (x.f0 == 46) = true := beq_iff_eq.mpr hq
            have b1x : (x.f0 != 46) = false := by simp [bne, b1]
            clear hq
            gi_wp2
            go_wp2
            go_roundg k
            case measure => omega
            case rel => exact ⟨i + 1, os2, ks2, st3, m2 + 1, congrArg (Value.int .i64) (show wrap64 ((i : Int) + 1) = ((i + 1 : Nat) : Int) by have := HI200.out; unfold wrap64; omega), ⟨by have := HIK.out; omega⟩, ⟨HI3.out.weak⟩, HJ3, HK2, ⟨by have := HM2.out; have := hm.out; omega⟩, HF3⟩
          · have HF3 := Aside0.mk (HF2.out.trans (if_neg hq))
            have b1 : (x.f0 == 46) = false := beq_eq_false_iff_ne.mpr hq
            have b1x : (x.f0 != 46) = true := by simp [bne, b1]
            clear hq
            obtain ⟨vo, vk, g1, g2, g3, g4, g5⟩ := HI3.out
            obtain ⟨Ao, co, eo⟩ := Kd.R_slice g4
            subst eo
            obtain ⟨Ak, ck, ek⟩ := Kd.R_slice g5
            subst ek
            have HGB : Aside0 (GB (w.heap.size) W3 (w.heap.size + 1) (w.heap.size + 1 + 1) w.heap.size (wr.heap.size) l x (.slice Ao os2.length co) (.slice Ak ks2.length ck) ks2 W3) := ⟨⟨g1, g2, HXB3.out, g3, KI.below (Below.refl _ _), by have := blk_lt g2; omega⟩, g5⟩
            have RO := Aside0.mk g4
            clear g1 g2 g3 g4 g5 HI3
            gi_wp2
            go_wp2
            refine start_ (n := 13) (S := fun w' => w'.cell? ⟨w.heap.size + 1, 0, none⟩ = some (.slice Ao os2.length co) ∧ w'.cell? ⟨w.heap.size + 1 + 1, 0, none⟩ = some (.slice Ak ks2.length ck) ∧ w'.cell? ⟨wr.heap.size, 0, none⟩ = some (.int .u8 x.f0) ∧ w'.cell? ⟨wr.heap.size, 1, none⟩ = some (.int .i64 x.f1) ∧ w'.cell? ⟨wr.heap.size, 2, none⟩ = some (.int .i64 x.f2) ∧ w'.cell? ⟨wr.heap.size, 3, none⟩ = some (.int .i64 x.f3)) (ds := [11, 12]) #[false, false, false, false, false, false, false, false, false, false, false, false, false] (by kernel_rfl) rfl rfl (GB.held (GB.drew HGB.out)) (fun hHeld => ?_)
            refine with_tabW it53.tab14 it53.bits14 (fun HT_ HW_ => ?_)
            have HG0 := Aside0.mk (GB.drew HGB.out)
            have HRO := Aside0.mk (Kd.R_drew RO.out)
            clear HGB RO
            generalize W3.drew = w5 at HG0 HRO hHeld ⊢
            refine take_ (i := 0) (N := some 71) (v := ?_) (a' := ?_) #[true, false, false, false, false, false, false, false, false, false, false, false, false] rfl rfl (take_ofW HT_.out HW_.out (by kernel_rfl)) (fun _ _ _ h => h) (Or.inl ⟨by rfl, ?_⟩) hHeld ?_ ?_
            rotate_left
            · rintro w' ⟨s0, s1, s2, s3, s4, s5⟩
              go_simp
              with_reducible rfl
            rotate_left
            · simp only [Act.put, List.setIfInBounds_toArray, List.set_cons_zero, List.set_cons_succ, i64_w, i32_w]
              rfl
            refine pure_ (i := 1) (N := some 72) (v := ?_) (a' := ?_) #[true, true, false, false, false, false, false, false, false, false, false, false, false] rfl rfl (any_of HT_.out (by kernel_rfl)) (fun _ _ _ h => h) (Or.inl ⟨by rfl, ?_⟩) ?_ ?_
            rotate_left
            · intro w'
              go_simp
              with_reducible rfl
            rotate_left
            · simp only [Act.put, List.setIfInBounds_toArray, List.set_cons_zero, List.set_cons_succ, i64_w, i32_w]
              rfl
            refine pure_ (i := 2) (N := some 73) (v := ?_) (a' := ?_) #[true, true, true, false, false, false, false, false, false, false, false, false, false] rfl rfl (any_of HT_.out (by kernel_rfl)) (fun _ _ _ h => h) (Or.inl ⟨by rfl, ?_⟩) ?_ ?_
            rotate_left
            · intro w'
              go_simp
              with_reducible rfl
            rotate_left
            · simp only [Act.put, List.setIfInBounds_toArray, List.set_cons_zero, List.set_cons_succ, i64_w, i32_w]
              rfl
            refine take_ (i := 3) (N := some 74) (v := ?_) (a' := ?_) #[true, true, true, true, false, false, false, false, false, false, false, false, false] rfl rfl (take_ofW HT_.out HW_.out (by kernel_rfl)) (fun _ _ _ h => h) (Or.inl ⟨by rfl, ?_⟩) hHeld ?_ ?_
            rotate_left
            · rintro w' ⟨s0, s1, s2, s3, s4, s5⟩
              go_simp
              with_reducible rfl
            rotate_left
            · simp only [Act.put, List.setIfInBounds_toArray, List.set_cons_zero, List.set_cons_succ, i64_w, i32_w]
              rfl
            refine pure_ (i := 4) (N := some 75) (v := ?_) (a' := ?_) #[true, true, true, true, true, false, false, false, false, false, false, false, false] rfl rfl (any_of HT_.out (by kernel_rfl)) (fun _ _ _ h => h) (Or.inl ⟨by rfl, ?_⟩) ?_ ?_
            rotate_left
            · intro w'
              go_simp
              with_reducible rfl
            rotate_left
            · simp only [Act.put, List.setIfInBounds_toArray, List.set_cons_zero, List.set_cons_succ, i64_w, i32_w]
              rfl
            refine take_ (i := 7) (N := some 78) (v := ?_) (a' := ?_) #[true, true, true, true, true, false, false, true, false, false, false, false, false] rfl rfl (take_ofW HT_.out HW_.out (by kernel_rfl)) (fun _ _ _ h => h) (Or.inl ⟨by rfl, ?_⟩) hHeld ?_ ?_
            rotate_left
            · rintro w' ⟨s0, s1, s2, s3, s4, s5⟩
              go_simp
              with_reducible rfl
            rotate_left
            · simp only [Act.put, List.setIfInBounds_toArray, List.set_cons_zero, List.set_cons_succ, i64_w, i32_w]
              rfl
            refine take_ (i := 8) (N := some 79) (v := ?_) (a' := ?_) #[true, true, true, true, true, false, false, true, true, false, false, false, false] rfl rfl (take_ofW HT_.out HW_.out (by kernel_rfl)) (fun _ _ _ h => h) (Or.inl ⟨by rfl, ?_⟩) hHeld ?_ ?_
            rotate_left
            · rintro w' ⟨s0, s1, s2, s3, s4, s5⟩
              go_simp
              with_reducible rfl
            rotate_left
            · simp only [Act.put, List.setIfInBounds_toArray, List.set_cons_zero, List.set_cons_succ, i64_w, i32_w]
              rfl
            refine join_ (σ := Value × Value × Value) 3 #[true, true, true, true, true, true, true, true, true, true, false, false, false] (fun s_ => [(76, s_.1), (77, s_.2.1), (80, s_.2.2)]) (fun s_ w' => GB (w.heap.size) W3 (w.heap.size + 1) (w.heap.size + 1 + 1) w.heap.size (wr.heap.size) l x (.slice Ao os2.length co) (.slice Ak ks2.length ck) ks2 w' ∧ Kd.R (Kd.int .i64) 3 w' w.heap.size (fun _ => True) s_.2.1 (os2 ++ [(wrap64 ((i : Int) + x.f1))]) ∧ Kd.R k53 53 w' w.heap.size (fun _ => True) s_.2.2 [x]) ?_ ?_
            rotate_left
            · intro hCont
              refine two_ (i := 5) (j := 9) (Ni := some 76) (Nj := some 80) #[true, true, true, true, true, true, false, true, true, false, false, false, false] #[true, true, true, true, true, false, false, true, true, true, false, false, false] rfl rfl rfl rfl (two_of HT_.out (by kernel_rfl)) (by decide) (by decide) (fun K hK => ?_) (fun K hK => ?_)
              · skip
                refine Kd.R_lit_step (Kd.int .i64) _ 3 ?hg (N := 76) ?hd (xs := ([(wrap64 ((i : Int) + x.f1))] : List Int)) (inner := [.int .i64 (wrap64 ((i : Int) + x.f1))]) (ok := fun _ => True) (okp := fun _ => True) ?hr ?hp (fun _ hk => hk) trivial (Below.refl _ _) (Nat.le_refl _) (by simp) ?_
                (case hd => rfl)
                (case hg => rfl)
                (case hr => first | (go_simp; done) | (go_simp; rfl))
                (case hp => exact (Reps.one (show Kd.M (Kd.int .i64) _ _ _ (wrap64 ((i : Int) + x.f1)) [.int .i64 (wrap64 ((i : Int) + x.f1))] from rfl) (Reps.none _ _)))
                intro v1 w1 ho1 hb1 hg1 hn1
                have HG1 := Aside0.mk (GB.below HG0.out hb1)
                have HR1 := Aside0.mk (Kd.R_below HRO.out hb1)
                have HV1 := Aside0.mk (Kd.R_lower ho1 (GB.le HG0.out))
                clear HG0 HRO hb1 hg1 hn1 ho1
                have HG0 := HG1
                have HRO := HR1
                clear HG1 HR1
                obtain ⟨A1, c1_, e1_⟩ := Kd.R_slice HV1.out
                subst e1_
                refine hK.out _ _ (GB.held HG0.out) (fun hHeld => ?_)
                clear hK K
                refine norm_ (a' := ?_) ?_ ?_
                rotate_left
                · show Act.put _ (some 76) _ = _
                  simp only [Act.put, List.setIfInBounds_toArray, List.set_cons_zero, List.set_cons_succ, i64_w, i32_w]
                  rfl
                refine two_ (i := 6) (j := 9) (Ni := some 77) (Nj := some 80) #[true, true, true, true, true, true, true, true, true, false, false, false, false] #[true, true, true, true, true, true, false, true, true, true, false, false, false] rfl rfl rfl rfl (two_of HT_.out (by kernel_rfl)) (by decide) (by decide) (fun K hK => ?_) (fun K hK => ?_)
                · skip
                  refine Kd.R_append_rows_step (P := Tryz.prog) (Rr := (Kd.int .i64).M w1 w.heap.size (fun _ => False)) (w0 := w1) (W := w1) (Kd.int .i64) w.heap.size (by rfl) (.tmp 71) (.tmp 76) 23 3 (.int .i64 0) 8 rfl Tryz.underlying23 info3 rfl (by decide) (by omega) (.slice Ao os2.length co) os2 [(wrap64 ((i : Int) + x.f1))] A1 ([(wrap64 ((i : Int) + x.f1))] : List Int).length c1_ (fun _ => True) (fun _ => False) ?aE ?aX ?aO ?aR (fun _ _ h => h) (fun _ h => h.elim) ?aF ?aB ?aS ?aL ?_
                  (case aE => rfl)
                  (case aX => rfl)
                  (case aR => exact (Kd.R_reads' HV1.out).2.2)
                  (case aB => exact Below.refl _ _)
                  (case aF => exact (fun _ _ => trivial))
                  (case aO => exact HRO.out)
                  (case aS => exact GB.le HG0.out)
                  (case aL => have := HM2.out; have := hm.out; have := HI200.out; simp only [List.length_cons, List.length_nil]; omega)
                  intro v2 w2 ho2 hb2 hg2 hat2
                  have HG1 := Aside0.mk (GB.grown1 HG0.out HRO.out hg2)
                  have HRA := Aside0.mk ho2
                  clear HG0 HRO HV1 hb2 hg2 hat2 ho2
                  have HG0 := HG1
                  clear HG1
                  refine hK.out _ _ (GB.held HG0.out) (fun hHeld => ?_)
                  clear hK K
                  refine norm_ (a' := ?_) ?_ ?_
                  rotate_left
                  · show Act.put _ (some 77) _ = _
                    simp only [Act.put, List.setIfInBounds_toArray, List.set_cons_zero, List.set_cons_succ, i64_w, i32_w]
                    rfl
                  refine one_ (i := 9) (N := some 80) #[true, true, true, true, true, true, true, true, true, true, false, false, false] rfl rfl (one_of HT_.out (by kernel_rfl)) (by decide) (fun K hK => ?_)
                  refine Kd.R_lit_step k53 _ 53 ?hg (N := 80) ?hd (xs := ([x] : List S53)) (inner := [.int .u8 x.f0, .int .i64 x.f1, .int .i64 x.f2, .int .i64 x.f3]) (ok := fun _ => True) (okp := fun _ => True) ?hr ?hp (fun _ hk => hk) trivial (Below.refl _ _) (Nat.le_refl _) (by simp) ?_
                  (case hd => rfl)
                  (case hg => rfl)
                  (case hr => first | (go_simp; done) | (go_simp; rfl))
                  (case hp => exact (Reps.c4 (show Kd.M k53 _ _ _ x [.int .u8 x.f0, .int .i64 x.f1, .int .i64 x.f2, .int .i64 x.f3] from k53_mkM _ _ _ x) (Reps.none _ _)))
                  intro v3 w3 ho3 hb3 hg3 hn3
                  have HG1 := Aside0.mk (GB.below HG0.out hb3)
                  have HV3 := Aside0.mk (Kd.R_lower ho3 (GB.le HG0.out))
                  have HRA' := Aside0.mk (Kd.R_below HRA.out hb3)
                  clear HRA
                  have HRA := HRA'
                  clear HRA'
                  clear HG0 hb3 hg3 hn3 ho3
                  have HG0 := HG1
                  clear HG1
                  refine hK.out _ _ (GB.held HG0.out) (fun hHeld => ?_)
                  clear hK K
                  refine norm_ (a' := ?_) ?_ ?_
                  rotate_left
                  · show Act.put _ (some 80) _ = _
                    simp only [Act.put, List.setIfInBounds_toArray, List.set_cons_zero, List.set_cons_succ, i64_w, i32_w]
                    rfl
                  exact norm_ (by simp only [putAll, Act.put, List.setIfInBounds_toArray, List.set_cons_zero, List.set_cons_succ]) (hCont (.slice A1 ([(wrap64 ((i : Int) + x.f1))] : List Int).length c1_, v2, v3) _ ⟨HG0.out, HRA.out, HV3.out⟩)
                · skip
                  refine Kd.R_lit_step k53 _ 53 ?hg (N := 80) ?hd (xs := ([x] : List S53)) (inner := [.int .u8 x.f0, .int .i64 x.f1, .int .i64 x.f2, .int .i64 x.f3]) (ok := fun _ => True) (okp := fun _ => True) ?hr ?hp (fun _ hk => hk) trivial (Below.refl _ _) (Nat.le_refl _) (by simp) ?_
                  (case hd => rfl)
                  (case hg => rfl)
                  (case hr => first | (go_simp; done) | (go_simp; rfl))
                  (case hp => exact (Reps.c4 (show Kd.M k53 _ _ _ x [.int .u8 x.f0, .int .i64 x.f1, .int .i64 x.f2, .int .i64 x.f3] from k53_mkM _ _ _ x) (Reps.none _ _)))
                  intro v3 w3 ho3 hb3 hg3 hn3
                  have HG1 := Aside0.mk (GB.below HG0.out hb3)
                  have HV3 := Aside0.mk (Kd.R_lower ho3 (GB.le HG0.out))
                  have HV1' := Aside0.mk (Kd.R_below HV1.out hb3)
                  clear HV1
                  have HV1 := HV1'
                  clear HV1'
                  have HR1 := Aside0.mk (Kd.R_below HRO.out hb3)
                  clear HRO
                  have HRO := HR1
                  clear HR1
                  clear HG0 hb3 hg3 hn3 ho3
                  have HG0 := HG1
                  clear HG1
                  refine hK.out _ _ (GB.held HG0.out) (fun hHeld => ?_)
                  clear hK K
                  refine norm_ (a' := ?_) ?_ ?_
                  rotate_left
                  · show Act.put _ (some 80) _ = _
                    simp only [Act.put, List.setIfInBounds_toArray, List.set_cons_zero, List.set_cons_succ, i64_w, i32_w]
                    rfl
                  refine one_ (i := 6) (N := some 77) #[true, true, true, true, true, true, true, true, true, true, false, false, false] rfl rfl (one_of HT_.out (by kernel_rfl)) (by decide) (fun K hK => ?_)
                  refine Kd.R_append_rows_step (P := Tryz.prog) (Rr := (Kd.int .i64).M w3 w.heap.size (fun _ => False)) (w0 := w3) (W := w3) (Kd.int .i64) w.heap.size (by rfl) (.tmp 71) (.tmp 76) 23 3 (.int .i64 0) 8 rfl Tryz.underlying23 info3 rfl (by decide) (by omega) (.slice Ao os2.length co) os2 [(wrap64 ((i : Int) + x.f1))] A1 ([(wrap64 ((i : Int) + x.f1))] : List Int).length c1_ (fun _ => True) (fun _ => False) ?aE ?aX ?aO ?aR (fun _ _ h => h) (fun _ h => h.elim) ?aF ?aB ?aS ?aL ?_
                  (case aE => rfl)
                  (case aX => rfl)
                  (case aR => exact (Kd.R_reads' HV1.out).2.2)
                  (case aB => exact Below.refl _ _)
                  (case aF => exact (fun _ _ => trivial))
                  (case aO => exact HRO.out)
                  (case aS => exact GB.le HG0.out)
                  (case aL => have := HM2.out; have := hm.out; have := HI200.out; simp only [List.length_cons, List.length_nil]; omega)
                  intro v2 w2 ho2 hb2 hg2 hat2
                  have HG1 := Aside0.mk (GB.grown1 HG0.out HRO.out hg2)
                  have HRA := Aside0.mk ho2
                  have HV3' := Aside0.mk (Kd.R_over' HV3.out (Kd.R_typed HRO.out) (by decide) hg2)
                  clear HV3
                  have HV3 := HV3'
                  clear HV3'
                  clear HG0 HRO HV1 hb2 hg2 hat2 ho2
                  have HG0 := HG1
                  clear HG1
                  refine hK.out _ _ (GB.held HG0.out) (fun hHeld => ?_)
                  clear hK K
                  refine norm_ (a' := ?_) ?_ ?_
                  rotate_left
                  · show Act.put _ (some 77) _ = _
                    simp only [Act.put, List.setIfInBounds_toArray, List.set_cons_zero, List.set_cons_succ, i64_w, i32_w]
                    rfl
                  exact norm_ (by simp only [putAll, Act.put, List.setIfInBounds_toArray, List.set_cons_zero, List.set_cons_succ]) (hCont (.slice A1 ([(wrap64 ((i : Int) + x.f1))] : List Int).length c1_, v2, v3) _ ⟨HG0.out, HRA.out, HV3.out⟩)
              · skip
                refine Kd.R_lit_step k53 _ 53 ?hg (N := 80) ?hd (xs := ([x] : List S53)) (inner := [.int .u8 x.f0, .int .i64 x.f1, .int .i64 x.f2, .int .i64 x.f3]) (ok := fun _ => True) (okp := fun _ => True) ?hr ?hp (fun _ hk => hk) trivial (Below.refl _ _) (Nat.le_refl _) (by simp) ?_
                (case hd => rfl)
                (case hg => rfl)
                (case hr => first | (go_simp; done) | (go_simp; rfl))
                (case hp => exact (Reps.c4 (show Kd.M k53 _ _ _ x [.int .u8 x.f0, .int .i64 x.f1, .int .i64 x.f2, .int .i64 x.f3] from k53_mkM _ _ _ x) (Reps.none _ _)))
                intro v3 w3 ho3 hb3 hg3 hn3
                have HG1 := Aside0.mk (GB.below HG0.out hb3)
                have HV3 := Aside0.mk (Kd.R_lower ho3 (GB.le HG0.out))
                have HR1 := Aside0.mk (Kd.R_below HRO.out hb3)
                clear HRO
                have HRO := HR1
                clear HR1
                clear HG0 hb3 hg3 hn3 ho3
                have HG0 := HG1
                clear HG1
                refine hK.out _ _ (GB.held HG0.out) (fun hHeld => ?_)
                clear hK K
                refine norm_ (a' := ?_) ?_ ?_
                rotate_left
                · show Act.put _ (some 80) _ = _
                  simp only [Act.put, List.setIfInBounds_toArray, List.set_cons_zero, List.set_cons_succ, i64_w, i32_w]
                  rfl
                refine one_ (i := 5) (N := some 76) #[true, true, true, true, true, true, false, true, true, true, false, false, false] rfl rfl (one_of HT_.out (by kernel_rfl)) (by decide) (fun K hK => ?_)
                refine Kd.R_lit_step (Kd.int .i64) _ 3 ?hg (N := 76) ?hd (xs := ([(wrap64 ((i : Int) + x.f1))] : List Int)) (inner := [.int .i64 (wrap64 ((i : Int) + x.f1))]) (ok := fun _ => True) (okp := fun _ => True) ?hr ?hp (fun _ hk => hk) trivial (Below.refl _ _) (Nat.le_refl _) (by simp) ?_
                (case hd => rfl)
                (case hg => rfl)
                (case hr => first | (go_simp; done) | (go_simp; rfl))
                (case hp => exact (Reps.one (show Kd.M (Kd.int .i64) _ _ _ (wrap64 ((i : Int) + x.f1)) [.int .i64 (wrap64 ((i : Int) + x.f1))] from rfl) (Reps.none _ _)))
                intro v1 w1 ho1 hb1 hg1 hn1
                have HG1 := Aside0.mk (GB.below HG0.out hb1)
                have HR1 := Aside0.mk (Kd.R_below HRO.out hb1)
                have HV1 := Aside0.mk (Kd.R_lower ho1 (GB.le HG0.out))
                have HV3' := Aside0.mk (Kd.R_below HV3.out hb1)
                clear HV3
                have HV3 := HV3'
                clear HV3'
                clear HG0 HRO hb1 hg1 hn1 ho1
                have HG0 := HG1
                have HRO := HR1
                clear HG1 HR1
                obtain ⟨A1, c1_, e1_⟩ := Kd.R_slice HV1.out
                subst e1_
                refine hK.out _ _ (GB.held HG0.out) (fun hHeld => ?_)
                clear hK K
                refine norm_ (a' := ?_) ?_ ?_
                rotate_left
                · show Act.put _ (some 76) _ = _
                  simp only [Act.put, List.setIfInBounds_toArray, List.set_cons_zero, List.set_cons_succ, i64_w, i32_w]
                  rfl
                refine one_ (i := 6) (N := some 77) #[true, true, true, true, true, true, true, true, true, true, false, false, false] rfl rfl (one_of HT_.out (by kernel_rfl)) (by decide) (fun K hK => ?_)
                refine Kd.R_append_rows_step (P := Tryz.prog) (Rr := (Kd.int .i64).M w1 w.heap.size (fun _ => False)) (w0 := w1) (W := w1) (Kd.int .i64) w.heap.size (by rfl) (.tmp 71) (.tmp 76) 23 3 (.int .i64 0) 8 rfl Tryz.underlying23 info3 rfl (by decide) (by omega) (.slice Ao os2.length co) os2 [(wrap64 ((i : Int) + x.f1))] A1 ([(wrap64 ((i : Int) + x.f1))] : List Int).length c1_ (fun _ => True) (fun _ => False) ?aE ?aX ?aO ?aR (fun _ _ h => h) (fun _ h => h.elim) ?aF ?aB ?aS ?aL ?_
                (case aE => rfl)
                (case aX => rfl)
                (case aR => exact (Kd.R_reads' HV1.out).2.2)
                (case aB => exact Below.refl _ _)
                (case aF => exact (fun _ _ => trivial))
                (case aO => exact HRO.out)
                (case aS => exact GB.le HG0.out)
                (case aL => have := HM2.out; have := hm.out; have := HI200.out; simp only [List.length_cons, List.length_nil]; omega)
                intro v2 w2 ho2 hb2 hg2 hat2
                have HG1 := Aside0.mk (GB.grown1 HG0.out HRO.out hg2)
                have HRA := Aside0.mk ho2
                have HV3' := Aside0.mk (Kd.R_over' HV3.out (Kd.R_typed HRO.out) (by decide) hg2)
                clear HV3
                have HV3 := HV3'
                clear HV3'
                clear HG0 HRO HV1 hb2 hg2 hat2 ho2
                have HG0 := HG1
                clear HG1
                refine hK.out _ _ (GB.held HG0.out) (fun hHeld => ?_)
                clear hK K
                refine norm_ (a' := ?_) ?_ ?_
                rotate_left
                · show Act.put _ (some 77) _ = _
                  simp only [Act.put, List.setIfInBounds_toArray, List.set_cons_zero, List.set_cons_succ, i64_w, i32_w]
                  rfl
                exact norm_ (by simp only [putAll, Act.put, List.setIfInBounds_toArray, List.set_cons_zero, List.set_cons_succ]) (hCont (.slice A1 ([(wrap64 ((i : Int) + x.f1))] : List Int).length c1_, v2, v3) _ ⟨HG0.out, HRA.out, HV3.out⟩)
            rintro ⟨v1, v2, v3⟩ W4 ⟨hG4, hR4, hS4⟩
            have HG4 : Aside0 (GB (w.heap.size) W3 (w.heap.size + 1) (w.heap.size + 1 + 1) w.heap.size (wr.heap.size) l x (.slice Ao os2.length co) (.slice Ak ks2.length ck) ks2 W4) := ⟨hG4⟩
            have HR4 : Aside0 (Kd.R (Kd.int .i64) 3 W4 w.heap.size (fun _ => True) v2 (os2 ++ [(wrap64 ((i : Int) + x.f1))])) := ⟨hR4⟩
            have HS4 : Aside0 (Kd.R k53 53 W4 w.heap.size (fun _ => True) v3 [x]) := ⟨hS4⟩
            clear hG4 hR4 hS4 HG0 HRO
            obtain ⟨A3, c3_, e3_⟩ := Kd.R_slice HS4.out
            change v3 = _ at e3_
            subst e3_
            obtain ⟨A2, c2_, e2_⟩ := Kd.R_slice HR4.out
            change v2 = _ at e2_
            subst e2_
            refine norm_ (a' := ?_) ?_ ?_
            rotate_left
            · simp only [putAll, Act.put, List.setIfInBounds_toArray, List.set_cons_zero, List.set_cons_succ]
              rfl
            refine one_ (i := 10) (N := some 81) #[true, true, true, true, true, true, true, true, true, true, true, false, false] rfl rfl (one_of HT_.out (by kernel_rfl)) (by decide) (fun K hK => ?_)
            refine Kd.R_append_rows_step (P := Tryz.prog) (Rr := k53.M W4 w.heap.size (fun _ => False)) (w0 := W4) (W := W4) k53 w.heap.size (by rfl) (.tmp 78) (.tmp 80) 24 53 (.agg #[.int .u8 0, .int .i64 0, .int .i64 0, .int .i64 0]) 32 rfl Tryz.underlying24 info53 rfl (by decide) (by omega) (.slice Ak ks2.length ck) ks2 [x] A3 ([x] : List S53).length c3_ (fun _ => True) (fun _ => False) ?aE ?aX ?aO ?aR (fun _ _ h => h) (fun _ h => h.elim) ?aF ?aB ?aS ?aL ?_
            (case aE => rfl)
            (case aX => rfl)
            (case aR => exact (Kd.R_reads' HS4.out).2.2)
            (case aB => exact Below.refl _ _)
            (case aF => exact (fun _ _ => trivial))
            (case aO => exact Kd.R_mono HG4.out.2 (fun _ _ => trivial))
            (case aS => exact GB.le HG4.out)
            (case aL => have := HM2.out; have := hm.out; have := HI200.out; have := HK2.out; simp only [List.length_cons, List.length_nil]; omega)
            intro v4 w6 ho6 hb6 hg6 hat6
            have HG6 := Aside0.mk (GB.grown2 HG4.out hg6)
            have HR6 := Aside0.mk (Kd.R_over' HR4.out (Kd.R_typed HG4.out.2) (by decide) hg6)
            have HK6 := Aside0.mk ho6
            clear HG4 HR4 HS4 ho6 hb6 hg6 hat6
            obtain ⟨A4, c4_, e4_⟩ := Kd.R_slice HK6.out
            subst e4_
            refine hK.out _ _ (GB2.held HG6.out) (fun hHeld => ?_)
            clear hK K
            refine norm_ (a' := ?_) ?_ ?_
            rotate_left
            · show Act.put _ (some 81) _ = _
              simp only [Act.put, List.setIfInBounds_toArray, List.set_cons_zero, List.set_cons_succ, i64_w, i32_w]
              rfl
            refine last_ (i := 11) (N := none) #[true, true, true, true, true, true, true, true, true, true, true, true, false] rfl rfl (one_of HT_.out (by kernel_rfl)) (by decide) (fun K hK => ?_)
            obtain ⟨g1, g2, g3, g4, g5, g6⟩ := HG6.out
            have hs1 : w6.cell? ⟨w.heap.size + 1, 0, none⟩ = some (.slice Ao os2.length co) := (blk_cell g1 0).trans rfl
            have hs2 := blk_frozen g1 0
            clear g1 g2 g3 g4 g5 g6
            refine skip_ (w1 := ?_) (by rfl) rfl ?_ ?_
            rotate_left
            · go_simp
              rfl
            refine hK.out _ _ ?_
            clear hK K
            refine last_ (i := 12) (N := none) #[true, true, true, true, true, true, true, true, true, true, true, true, true] rfl rfl (one_of HT_.out (by kernel_rfl)) (by decide) (fun K hK => ?_)
            have g2 := HG6.out.put2 (.slice A2 (os2.length + 1) c2_)
            have hs3 := (blk_cell g2 0).trans rfl
            have hs4 := blk_frozen HG6.out.2.1 0
            clear g2
            refine skip_ (w1 := ?_) (by rfl) rfl ?_ ?_
            rotate_left
            · go_simp
              rfl
            refine hK.out _ _ ?_
            clear hK K
            refine done_ (done_of HT_.out (by kernel_rfl)) ?_
            have HR7 := Aside0.mk (show Kd.R (Kd.int .i64) 3 w6 w.heap.size (fun _ => True) (.slice A2 (os2.length + 1) c2_) (os2 ++ [(wrap64 ((i : Int) + x.f1))]) by have := HR6.out; simpa only [List.length_append, List.length_cons, List.length_nil] using this)
            have HK7 := Aside0.mk (show Kd.R k53 53 w6 w.heap.size (fun _ => True) (.slice A4 (ks2.length + 1) c4_) (ks2 ++ [x]) by have := HK6.out; simpa only [List.length_append, List.length_cons, List.length_nil] using this)
            have HFIN := Aside0.mk (GB2.fin HG6.out HR7.out HK7.out (by omega) (by omega))
            go_wp2
            go_roundg k
            case measure => omega
            case rel => exact ⟨i + 1, os2 ++ [(wrap64 ((i : Int) + x.f1))], ks2 ++ [x], st3, m2 + 1, congrArg (Value.int .i64) (show wrap64 ((i : Int) + 1) = ((i + 1 : Nat) : Int) by have := HI200.out; unfold wrap64; omega), ⟨by have := HIK.out; omega⟩, ⟨HFIN.out.1⟩, ⟨HA.out _ _ _ _ HJ3.out HFIN.out.2⟩, ⟨by simp [HK2.out]⟩, ⟨by have := HM2.out; have := hm.out; simp; omega⟩, HF3⟩
    · obtain rfl : i = nl.length := by omega
      obtain rfl : gk = 0 := by omega
      have gr1 := gr.1
      have gr2 := gr.2.1
      have hS := shut_calls X (fun _ => True) w.heap.size l (w.heap.size + 1) (w.heap.size + 1 + 1) w.heap.size pgs pl J Jx HY.out HA.out HX.out (by omega) (by omega) (by omega) (nl.length : Int) m st1 os ks wr hIS.out hJ1.out hkl.out (by have := hm.out; omega)
      have HSH := Aside0.mk hS
      clear hS gr
      go_wp2_with (go_at_call 54; refine Aside0.out ?_)
      refine ⟨HSH.out.mono ?_⟩
      clear HSH
      rintro e W2 ⟨b, rfl, hcase⟩
      have HC := Aside0.mk hcase
      clear hcase gr1 gr2
      go_wp2
      go_end0
      rcases HC.out with ⟨rfl, os2, ks2, st2, m2, hsh, hI2, hJ2, hk2, hm2, hKp⟩ | ⟨rfl, hsh, hjx⟩
      · exact ⟨_, rfl, .inl ⟨st2, m2, by rw [hF.out]; simp only [iterF, hsh, Option.map_some], hJ2⟩⟩
      · exact ⟨_, rfl, .inr ⟨by rw [hF.out]; simp only [iterF, hsh, Option.map_none], hjx⟩⟩
end Go.Proofs.YtbapfjjegbbmfaaGreatDoor.PGatherAlone
