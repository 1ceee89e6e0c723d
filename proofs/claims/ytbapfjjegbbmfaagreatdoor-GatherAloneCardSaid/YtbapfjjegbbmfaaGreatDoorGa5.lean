/-
  The nodes that end at a place are shut, each by a round of the loop.
-/
import Derived.Test.YtbapfjjegbbmfaaGreatDoorGa4
import Derived.RangeFuncNested
import Derived.RangeFuncBound
import Derived.RangeFuncCalls
import Derived.RangeFuncLeaves
import Derived.Shelf.Abstract
import Derived.Shelf.RegionOpen
import Derived.WalkKit
import Derived.OwnWalkIn
import Derived.TacticsInMore
import Derived.LoopNIn
import Derived.LoopIn
set_option linter.unusedVariables false
set_option linter.unusedSimpArgs false
namespace Go.Proofs.YtbapfjjegbbmfaaGreatDoor.PGatherAlone
open Go.RowKit Go.Proofs.YtbapfjjegbbmfaaGreatDoorW.PrintWords Go.Proofs.YtbapfjjegbbmfaaGreatDoorW.PrintLast Go.Proofs.YtbapfjjegbbmfaaGreatDoorW.PrintMore

def rd_I (xs : List Int) (i : Int) : Int := xs.getD i.toNat 0
theorem at_I {w : World} {A : Option Addr} {n : Nat} {xs : List Int} (h : Kd.C (Kd.int .i64) w A n xs) (i : Int) (h0 : 0 ≤ i) (h1 : i < n) : ∃ ad, A = some ad ∧ w.cell? (ad.add i.toNat) = some (.int .i64 (rd_I xs i)) := by
  obtain ⟨ad, c, e, _, hK, hc0⟩ := Kd.C_get h 0 i h0 h1
  have hc : ∀ j u, c[j]? = some u → w.cell? (ad.add (i.toNat * 1 + j)) = some u := hc0
  have hk : c = [.int .i64 (rd_I xs i)] := hK
  subst hk
  exact ⟨ad, e, by have := hc 0 _ rfl; simpa using this⟩
/-- What a round does: the places told so far and the tokens; none: it stops. -/
def bodyF (pgs : List S43) (pl : List S33) (st : Int × List S51) (x : S53) (ends wrong : Bool) : Option (Int × List S51) :=
  if wrong = true then none else if x.f0 = 46 then (textsF pgs pl x st.1).map fun ts => (x.f3, st.2 ++ ts)
  else some (st.1, st.2 ++ [⟨if ends = true then 3 else 2, x.f0, 0⟩])
/-- The nodes that end at a place are shut. -/
def shutF (pgs : List S43) (pl : List S33) (at_ : Int) : Nat → List Int → List S53 → Int × List S51 → Option (List Int × List S53 × (Int × List S51))
  | 0, os, ks, st => some (os, ks, st)
  | n + 1, os, ks, st => if rd_I os n = at_ then (bodyF pgs pl st (rd_T53 ks n) true false).bind (shutF pgs pl at_ n (os.take n) (ks.take n)) else some (os, ks, st)
/-- The iterator's cells. -/
def IS (S l ob kb yb : Nat) (ok : Nat → Prop) (os : List Int) (ks : List S53) (W : World) : Prop :=
  ∃ vo vk, W.heap[ob]? = some (.cells #[vo] 23 (0, 0)) ∧ W.heap[kb]? = some (.cells #[vk] 24 (0, 0)) ∧ W.heap[yb]? = some (.cells #[.func (.yield l) #[] #[]] 125 (0, 0)) ∧
    Kd.R (Kd.int .i64) 3 W S (fun _ => True) vo os ∧ Kd.R k53 53 W S ok vk ks
def BlkX (B S : Nat) (k : Nat) : Prop := B ≤ k ∧ k < S
/-- What the iterator leaves. -/
def KI (S : Nat) (W W' : World) : Prop := Below 0 W W' ∧ ∀ (k : Nat) (o : Obj), W.heap[k]? = some o → (k < S ∨ ∃ cs, o = .cells cs 51 (0, 0)) → W'.heap[k]? = some o
theorem KI.below {S : Nat} {A B : World} (h : Below A.heap.size A B) : KI S A B := ⟨h.mono (Nat.zero_le _), fun k _ h1 _ => (h.block k (Array.getElem?_eq_some_iff.1 h1).1).trans h1⟩
theorem KI.trans {S : Nat} {A B C : World} (h : KI S A B) (k : KI S B C) : KI S A C := ⟨h.1.trans k.1, fun i o h1 h2 => k.2 i o (h.2 i o h1 h2) h2⟩
theorem KI.set {S : Nat} {W : World} {g : Nat} {t : TypeId} {cs : Array Value} (hg : W.heap[g]? = some (.cells cs t (0, 0))) (ht : t ≠ 51) (hS : S ≤ g) (j : Nat) (v : Value) : KI S W (W.setCell ⟨g, j, none⟩ v) := by
  refine ⟨(Below.refl 0 W).setCell (p := ⟨g, j, none⟩) (Nat.zero_le _) _, fun k o h1 h2 => ?_⟩
  rw [Below.heap_setCell W ⟨g, j, none⟩ v k ?_]
  · exact h1
  · rintro rfl
    rcases h2 with h2 | ⟨c, rfl⟩
    · exact absurd h2 (by simpa using hS)
    · rw [hg] at h1; cases h1; exact ht rfl
theorem KI.grown {S e : Nat} {α : Type} {d : Kd α} {W W1 : World} {v : Value} {xs : List α} {ok : Nat → Prop} (hR : d.R e W S ok v xs) (he : e ≠ 51) (hg : W.grownBy W1 v.ownBlock) : KI S W W1 := by
  refine ⟨(Below.refl 0 W).grown hg (Nat.zero_le _) (fun _ _ => Nat.zero_le _), fun k o h1 h2 => ?_⟩
  rw [hg.block k (Array.getElem?_eq_some_iff.1 h1).1 ?_]
  · exact h1
  · intro e1
    obtain ⟨inner, ho⟩ := Kd.R_own hR
    obtain ⟨cells, hc⟩ := own_typed ho k e1.symm
    rcases h2 with h2 | ⟨c, rfl⟩
    · exact absurd h2 (Nat.not_lt.2 (own_base ho k e1.symm))
    · rw [hc] at h1; cases h1; exact he rfl
/-- A row of other things than tokens, over what leaves these alone. -/
theorem R_kp {α : Type} {d : Kd α} {e S : Nat} {X ok : Nat → Prop} {W W' : World} {v : Value} {xs : List α} (hE : d.E = []) (he : e ≠ 51) (hR : d.R e W S ok v xs) (h : Kp X W W') (hX : ∀ k, S ≤ k → (∃ cs, W.heap[k]? = some (.cells cs e (0, 0))) → ¬ X k) : d.R e W' S ok v xs :=
  Kd.R_mono (Kd.R_step (Kd.R_bound hR) (fun k hk _ => by
    obtain ⟨_, hb, _, q, hq, cells, hc⟩ := hk
    rw [hE] at hq
    have : q = e := List.mem_singleton.1 hq
    subst this
    exact (h.2 k _ hc (hX k hb ⟨_, hc⟩) (fun cs hcs => by cases hcs; exact he rfl)).trans hc.symm)) (fun _ hk => hk.1)
theorem IS.kp {X ok : Nat → Prop} {S l ob kb yb : Nat} {os : List Int} {ks : List S53} {W W' : World} (h : IS S l ob kb yb ok os ks W) (hk : Kp X W W') (hX : ∀ k, S ≤ k → ¬ X k) (ho : S ≤ ob) (hkb : S ≤ kb) (hyb : S ≤ yb) : IS S l ob kb yb ok os ks W' := by
  obtain ⟨vo, vk, h1, h2, h3, h4, h5⟩ := h
  exact ⟨vo, vk, hk.blk h1 (hX _ ho) (fun cs h => by cases h), hk.blk h2 (hX _ hkb) (fun cs h => by cases h), hk.blk h3 (hX _ hyb) (fun cs h => by cases h), R_kp rfl (by decide) h4 hk (fun k hk _ => hX k hk), R_kp rfl (by decide) h5 hk (fun k hk _ => hX k hk)⟩
theorem info53 : (Tryz.prog.info? 53).map (fun i => (i.zero, i.size, i.bytes)) = some (some (.agg #[(.int .u8 0), (.int .i64 0), (.int .i64 0), (.int .i64 0)]), 4, 32) := by kernel_rfl
theorem R_setT {α : Type} {d : Kd α} {e S g t : Nat} {ok : Nat → Prop} {cells : Array Value} {W : World} {v : Value} {xs : List α} (h : d.R e W S ok v xs) (hb : W.heap[g]? = some (.cells cells t (0, 0))) (ht : ∀ q, q ∈ e :: d.E → q ≠ t) (j : Nat) (u : Value) : d.R e (W.setCell ⟨g, j, none⟩ u) S ok v xs :=
  Kd.R_mono (Kd.R_far (p := ⟨g, j, none⟩) (Kd.R_types h hb ht) (fun _ hk => hk.2) u) (fun _ hk => hk.1)
/-- Two rows cut. -/
theorem IS.cut {X ok : Nat → Prop} {S l ob kb yb n m co ck : Nat} {os : List Int} {ks : List S53} {W : World} {Ao Ak : Option Addr} (h1 : W.heap[ob]? = some (.cells #[.slice Ao m co] 23 (0, 0))) (h2 : W.heap[kb]? = some (.cells #[.slice Ak m ck] 24 (0, 0))) (h3 : W.heap[yb]? = some (.cells #[.func (.yield l) #[] #[]] 125 (0, 0)))
    (r1 : Kd.R (Kd.int .i64) 3 W S (fun _ => True) (.slice Ao m co) os) (r2 : Kd.R k53 53 W S ok (.slice Ak m ck) ks) (hn : n ≤ os.length) (hk : n ≤ ks.length) (ho : S ≤ ob) (hkb : S ≤ kb) :
    IS S l ob kb yb ok (os.take n) (ks.take n) ((W.setCell ⟨ob, 0, none⟩ (.slice Ao n co)).setCell ⟨kb, 0, none⟩ (.slice Ak n ck)).drew ∧ KI S W ((W.setCell ⟨ob, 0, none⟩ (.slice Ao n co)).setCell ⟨kb, 0, none⟩ (.slice Ak n ck)).drew ∧
      Kp (fun k => X k ∨ k = ob ∨ k = kb) W ((W.setCell ⟨ob, 0, none⟩ (.slice Ao n co)).setCell ⟨kb, 0, none⟩ (.slice Ak n ck)).drew := by
  have n1 : ob ≠ kb := blk_ne h1 h2 (by decide)
  have n2 : ob ≠ yb := blk_ne h1 h3 (by decide)
  have n3 : kb ≠ yb := blk_ne h2 h3 (by decide)
  have a1 := blk_put h1 0 (.slice Ao n co) rfl
  have a2 := blk_far h2 (p := ⟨ob, 0, none⟩) (Ne.symm n1) (.slice Ao n co)
  have a3 := blk_far h3 (p := ⟨ob, 0, none⟩) (Ne.symm n2) (.slice Ao n co)
  have t1 := R_setT (Kd.R_take r1 hn) h1 (by decide) 0 (.slice Ao n co)
  have t2 := R_setT (Kd.R_take r2 hk) h1 (by decide) 0 (.slice Ao n co)
  refine ⟨⟨_, _, blk_drew (blk_far a1 (p := ⟨kb, 0, none⟩) n1 _), blk_drew (blk_put a2 0 _ rfl), blk_drew (blk_far a3 (p := ⟨kb, 0, none⟩) (Ne.symm n3) _), Kd.R_drew (R_setT t1 a2 (by decide) 0 _), Kd.R_drew (R_setT t2 a2 (by decide) 0 _)⟩, ?_, ?_⟩
  · exact ((KI.set h1 (by decide) ho 0 _).trans (KI.set a2 (by decide) hkb 0 _)).trans (KI.below (below_drew1 (Below.refl _ _)))
  · exact ((Kp.set (X := fun k => X k ∨ k = ob ∨ k = kb) W ⟨ob, 0, none⟩ _ (.inr (.inl rfl))).trans (Kp.set _ ⟨kb, 0, none⟩ _ (.inr (.inr rfl)))).trans (Kp.below (below_drew1 (Below.refl _ _)))
/-- What a call of yield does: a round. -/
def YR (X : Nat → Prop) (pgs : List S43) (pl : List S33) (J : Nat → Int × List S51 → World → Prop) (Jx : World → Prop) (m : Nat) (st : Int × List S51) (x : S53) (ends wrong : Bool) (W : World) (e : Ending) (W' : World) : Prop :=
  ∃ b, e = .returned (.bool b) ∧ ((b = true ∧ ∃ st', bodyF pgs pl st x ends wrong = some st' ∧ J (m + 1) st' W' ∧ Kp X W W') ∨ (b = false ∧ bodyF pgs pl st x ends wrong = none ∧ Jx W'))
def YOK (X : Nat → Prop) (l : Nat) (pgs : List S43) (pl : List S33) (J : Nat → Int × List S51 → World → Prop) (Jx : World → Prop) : Prop :=
  ∀ m st x (ends wrong : Bool) W, J m st W → m < 500 → ∃ fn tmps assign body,
    (Instr.yield l #[.agg #[.int .u8 x.f0, .int .i64 x.f1, .int .i64 x.f2, .int .i64 x.f3, .bool ends, .bool wrong]]).run Tryz.prog W = .ok (.round l fn tmps assign body) W ∧
    RoundIn Fence.wide 0 Tryz.prog l fn tmps assign body W (YR X pgs pl J Jx m st x ends wrong W)
def ShutR (X ok : Nat → Prop) (S l ob kb yb : Nat) (pgs : List S43) (pl : List S33) (J : Nat → Int × List S51 → World → Prop) (Jx : World → Prop) (m : Nat) (os : List Int) (w : World) (r : Option (List Int × List S53 × (Int × List S51))) (e : Ending) (w' : World) : Prop :=
  ∃ b, e = .returned (.bool b) ∧ ((b = true ∧ ∃ os' ks' st' m', r = some (os', ks', st') ∧ IS S l ob kb yb ok os' ks' w' ∧ J m' st' w' ∧ ks'.length = os'.length ∧ m' + os'.length = m + os.length ∧ Kp (fun k => X k ∨ k = ob ∨ k = kb) w w') ∨ (b = false ∧ r = none ∧ Jx w'))
set_option maxRecDepth 100000 in
set_option maxHeartbeats 8000000 in
theorem shut_calls (X ok : Nat → Prop) (S l ob kb yb : Nat) (pgs : List S43) (pl : List S33) (J : Nat → Int × List S51 → World → Prop) (Jx : World → Prop) (hY : YOK X l pgs pl J Jx) (hA : ∀ m st W W', J m st W → KI S W W' → J m st W') (hX : ∀ k, S ≤ k → ¬ X k) (hob : S ≤ ob) (hkb : S ≤ kb) (hyb : S ≤ yb)
    (at_ : Int) (m : Nat) (st : Int × List S51) (os : List Int) (ks : List S53) (w : World) (hI : IS S l ob kb yb ok os ks w) (hJ : J m st w) (hl : ks.length = os.length) (hm : m + os.length ≤ 500) :
    Calls Tryz.prog 54 #[.int .i64 at_, .pointer (some ⟨ob, 0, none⟩), .pointer (some ⟨kb, 0, none⟩), .pointer (some ⟨yb, 0, none⟩)] w (ShutR X ok S l ob kb yb pgs pl J Jx m os w (shutF pgs pl at_ os.length os ks st)) := by
  have hu53 := Tryz.underlying53
  have HY := Aside0.mk hY
  have HA := Aside0.mk hA
  have HX := Aside0.mk hX
  have HI := Aside0.mk hI
  have HJ := Aside0.mk hJ
  clear hY hA hX hI hJ
  go_enter Tryz.func54, Tryz.ntmps54
  go_wp2
  go_loopg [] os.length (fun gk wr => ∃ (os1 : List Int) (ks1 : List S53) (st1 : Int × List S51) (m1 : Nat), Aside0 (gk = os1.length) ∧ Aside0 (ks1.length = os1.length) ∧ Aside0 (m1 + os1.length = m + os.length) ∧ Aside0 (shutF pgs pl at_ os.length os ks st = shutF pgs pl at_ os1.length os1 ks1 st1) ∧ Aside0 (IS S l ob kb yb ok os1 ks1 wr) ∧ Aside0 (J m1 st1 wr) ∧ Aside0 (Kp (fun k => X k ∨ k = ob ∨ k = kb) w wr))
  case atStart => exact ⟨os, ks, st, m, ⟨rfl⟩, ⟨hl⟩, ⟨rfl⟩, ⟨rfl⟩, HI, HJ, ⟨Kp.refl _ _⟩⟩
  case round =>
    obtain ⟨os1, ks1, st1, m1, hgk, hkl, hmm, hF, hIS, hJ1, hKp⟩ := hrel
    obtain ⟨vo, vk, b1, b2, b3, r1, r2⟩ := hIS.out
    obtain ⟨Ao, co, rfl, hco, Co⟩ := Kd.R_reads r1
    obtain ⟨Ak, ck, rfl, hck, Ck⟩ := Kd.R_reads r2
    rw [hkl.out] at r2 hck Ck b2
    have R1 := Aside0.mk r1
    have R2 := Aside0.mk r2
    have B1 := Aside0.mk b1
    have B2 := Aside0.mk b2
    have B3 := Aside0.mk b3
    have c1 : wr.cell? ⟨ob, 0, none⟩ = some (.slice Ao os1.length co) := (blk_cell b1 0).trans rfl
    have c2 : wr.cell? ⟨kb, 0, none⟩ = some (.slice Ak os1.length ck) := (blk_cell b2 0).trans rfl
    have c3 : wr.cell? ⟨yb, 0, none⟩ = some (.func (.yield l) #[] #[]) := (blk_cell b3 0).trans rfl
    clear r1 r2 b1 b2 b3
    obtain ⟨n, hn⟩ : ∃ n, n = os1.length := ⟨_, rfl⟩
    rw [← hn] at c1 c2 Co Ck hco hck
    have HN := Aside0.mk hn
    have hgn : gk = n := by rw [hn]; exact hgk.out
    subst hgn
    clear hn
    cases gk with
    | zero =>
      have HF := Aside0.mk (show shutF pgs pl at_ os.length os ks st = some (os1, ks1, st1) by rw [hF.out, ← HN.out]; rfl)
      go_wp2
      go_ret
      exact ⟨true, rfl, .inl ⟨rfl, os1, ks1, st1, m1, HF.out, hIS.out, hJ1.out, hkl.out, hmm.out, hKp.out⟩⟩
    | succ n =>
      obtain ⟨N, hN⟩ : ∃ N, N = n + 1 := ⟨_, rfl⟩
      rw [← hN] at c1 c2 Co Ck hco hck
      obtain ⟨ao, ea, d0⟩ := at_I Co (n : Nat) (by omega) (by omega)
      subst ea
      have hwn : wrap64 ((N : Int) - 1) = n := by have := hmm.out; have := HN.out; unfold wrap64; omega
      have hN0 : 0 < N := by omega
      have hN1 : n < N := by omega
      have HNN := Aside0.mk hN
      by_cases h : rd_I os1 n = at_
      rotate_left
      · have HF := Aside0.mk (show shutF pgs pl at_ os.length os ks st = some (os1, ks1, st1) by rw [hF.out, ← HN.out, shutF, if_neg h])
        have hb : (rd_I os1 n == at_) = false := beq_eq_false_iff_ne.mpr h
        clear h hN
        simp only [Int.toNat_natCast] at d0
        go_wp2
        go_ret
        exact ⟨true, rfl, .inl ⟨rfl, os1, ks1, st1, m1, HF.out, hIS.out, hJ1.out, hkl.out, hmm.out, hKp.out⟩⟩
      obtain ⟨ak, ek, e0, e1, e2, e3⟩ := at_T53 Ck (n : Nat) (by omega) (by omega)
      subst ek
      simp only [Int.toNat_natCast] at d0 e0 e1 e2 e3
      have HF := Aside0.mk (show shutF pgs pl at_ os.length os ks st = (bodyF pgs pl st1 (rd_T53 ks1 n) true false).bind (shutF pgs pl at_ n (os1.take n) (ks1.take n)) by rw [hF.out, ← HN.out, shutF, if_pos h])
      have hb : (rd_I os1 n == at_) = true := beq_iff_eq.mpr h
      clear h hN
      go_wp2
      obtain ⟨i3, hi3, -, -, -⟩ := info_parts info3
      obtain ⟨i53, hi53, -, -, -⟩ := info_parts info53
      have cut1 : ∀ W : World, (Instr.slice 23 (.slice (some ao) N co) none (some (.int .i64 (wrap64 ((N : Int) - 1)))) none).run Tryz.prog W = .ok (.slice (some ao) n co) W := by
        have := cut_to (P := Tryz.prog) 23 3 .i64 Tryz.underlying23 hi3 (some ao) N co (n : Int) (by omega) (by omega) hco
        rw [hwn]; simpa using this
      have cut2 : ∀ W : World, (Instr.slice 24 (.slice (some ak) N ck) none (some (.int .i64 (wrap64 ((N : Int) - 1)))) none).run Tryz.prog W = .ok (.slice (some ak) n ck) W := by
        have := cut_to (P := Tryz.prog) 24 53 .i64 Tryz.underlying24 hi53 (some ak) N ck (n : Int) (by omega) (by omega) hck
        rw [hwn]; simpa using this
      have q1 := blk_alloc B1.out (.cells #[.int .u8 (rd_T53 ks1 (n : Nat)).f0, .int .i64 (rd_T53 ks1 (n : Nat)).f1, .int .i64 (rd_T53 ks1 (n : Nat)).f2, .int .i64 (rd_T53 ks1 (n : Nat)).f3] 53)
      have q2 := blk_alloc B2.out (.cells #[.int .u8 (rd_T53 ks1 (n : Nat)).f0, .int .i64 (rd_T53 ks1 (n : Nat)).f1, .int .i64 (rd_T53 ks1 (n : Nat)).f2, .int .i64 (rd_T53 ks1 (n : Nat)).f3] 53)
      rw [← HN.out, ← HNN.out] at q1 q2
      have g1 := (blk_cell q1 0).trans rfl
      have g2 := (blk_cell q2 0).trans rfl
      have z1 := blk_frozen q1 0
      have z2 := blk_frozen q2 0
      have hne : ob ≠ kb := blk_ne q1 q2 (by decide)
      clear c1 c2 c3 d0 e0 e1 e2 e3 hi3 hi53 Co Ck hb
      go_region
      have hnl : n ≤ os1.length := by have := HN.out; have := HNN.out; omega
      have HW := IS.cut (X := X) (n := n) q1 q2 (blk_alloc B3.out _) (Kd.R_alloc (by have := R1.out; rwa [← HN.out, ← HNN.out] at this) _) (Kd.R_alloc (by have := R2.out; rwa [← HN.out, ← HNN.out] at this) _) hnl (by have := hkl.out; omega) hob hkb
      have hx3 : wr.heap.size ≠ ob := fun h => by have := blk_lt B1.out; omega
      have hx4 : wr.heap.size ≠ kb := fun h => by have := blk_lt B2.out; omega
      have HXB := blk_drew (blk_far (blk_far (blk_new wr (.cells #[.int .u8 (rd_T53 ks1 (n : Nat)).f0, .int .i64 (rd_T53 ks1 (n : Nat)).f1, .int .i64 (rd_T53 ks1 (n : Nat)).f2, .int .i64 (rd_T53 ks1 (n : Nat)).f3] 53)) (p := ⟨ob, 0, none⟩) hx3 (.slice (some ao) n co)) (p := ⟨kb, 0, none⟩) hx4 (.slice (some ak) n ck))
      generalize (((wr.alloc (.cells #[.int .u8 (rd_T53 ks1 (n : Nat)).f0, .int .i64 (rd_T53 ks1 (n : Nat)).f1, .int .i64 (rd_T53 ks1 (n : Nat)).f2, .int .i64 (rd_T53 ks1 (n : Nat)).f3] 53)).setCell ⟨ob, 0, none⟩ (.slice (some ao) n co)).setCell ⟨kb, 0, none⟩ (.slice (some ak) n ck)).drew = W3 at HW HXB ⊢
      obtain ⟨hI3, hK3, hP3⟩ := HW
      have hJ3 := HA.out _ _ _ _ hJ1.out ((KI.below (below_alloc (Below.refl _ _) _)).trans hK3)
      have HP3 := Aside0.mk ((hKp.out.trans (Kp.below (below_alloc (Below.refl _ _) _))).trans hP3)
      have HI3 := Aside0.mk hI3
      have hm1 : m1 < 500 := by have := hmm.out; have := HN.out; omega
      obtain ⟨fn, tmps, assign, body, hy, hR⟩ := HY.out m1 st1 (rd_T53 ks1 (n : Nat)) true false W3 hJ3 hm1
      obtain ⟨vo3, vk3, b31, b32, b33, _, _⟩ := hI3
      have y3 : W3.cell? ⟨yb, 0, none⟩ = some (.func (.yield l) #[] #[]) := (blk_cell b33 0).trans rfl
      have x0 : W3.cell? ⟨wr.heap.size, 0, none⟩ = some (.int .u8 (rd_T53 ks1 (n : Nat)).f0) := (blk_cell HXB 0).trans rfl
      have x1 : W3.cell? ⟨wr.heap.size, 1, none⟩ = some (.int .i64 (rd_T53 ks1 (n : Nat)).f1) := (blk_cell HXB 1).trans rfl
      have x2 : W3.cell? ⟨wr.heap.size, 2, none⟩ = some (.int .i64 (rd_T53 ks1 (n : Nat)).f2) := (blk_cell HXB 2).trans rfl
      have x3 : W3.cell? ⟨wr.heap.size, 3, none⟩ = some (.int .i64 (rd_T53 ks1 (n : Nat)).f3) := (blk_cell HXB 3).trans rfl
      have HRD := Aside0.mk hR
      have HJ3 := Aside0.mk hJ3
      clear HXB hK3 hP3 b31 b32 b33 hR hJ3 q1 q2 g1 g2 z1 z2 hne cut1 cut2 hx3 hx4
      generalize rd_T53 ks1 (n : Nat) = x at *
      iterate 3 (first | go_values | go_skip | go_step)
      refine (wpIn_wide (n := 0)).1 ?_
      gi_wp2
      refine ⟨rfl, HRD.out.mono ?_⟩
      rintro e W4 ⟨b, rfl, hcase⟩
      clear hy HRD y3 x0 x1 x2 x3
      rcases hcase with ⟨rfl, st', hbd, hJ4, hk4⟩ | ⟨rfl, hbd, hjx⟩
      · have HB4 := Aside0.mk hbd
        have HJ4 := Aside0.mk hJ4
        have HK4 := Aside0.mk hk4
        clear hbd hJ4 hk4
        gi_wp2
        go_wp2
        go_roundg n
        case measure => omega
        case rel =>
          have hN1 := HN.out
          have hN2 := HNN.out
          have hN3 := hkl.out
          have hN4 := hmm.out
          refine ⟨os1.take n, ks1.take n, st', m1 + 1, ⟨?_⟩, ⟨?_⟩, ⟨?_⟩, ⟨?_⟩, ⟨?_⟩, HJ4, ⟨?_⟩⟩
          · rw [List.length_take]; omega
          · rw [List.length_take, List.length_take]; omega
          · rw [List.length_take]; omega
          · have hl3 : (os1.take n).length = n := by rw [List.length_take]; omega
            rw [HF.out, HB4.out, hl3]; rfl
          · exact HI3.out.kp HK4.out HX.out hob hkb hyb
          · exact HP3.out.trans (HK4.out.mono (fun _ h => .inl h))
      · have HB4 := Aside0.mk hbd
        have HJ4 := Aside0.mk hjx
        clear hbd hjx
        gi_wp2
        go_wp2
        go_ret
        exact ⟨false, rfl, .inr ⟨rfl, by rw [HF.out, HB4.out]; rfl, HJ4.out⟩⟩
end Go.Proofs.YtbapfjjegbbmfaaGreatDoor.PGatherAlone
