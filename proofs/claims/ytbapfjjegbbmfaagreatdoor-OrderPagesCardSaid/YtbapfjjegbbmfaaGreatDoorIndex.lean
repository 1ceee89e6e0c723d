/-
  The index of any places is a new map that holds each place's first number.
-/
import Derived.Test.YtbapfjjegbbmfaaGreatDoorKeys
namespace Go.Proofs.YtbapfjjegbbmfaaGreatDoor.POrderPages
open Go.RowKit Go.Proofs.YtbapfjjegbbmfaaGreatDoorW.PrintWords Go.Proofs.YtbapfjjegbbmfaaGreatDoorW.PrintLast Go.Proofs.YtbapfjjegbbmfaaGreatDoorW.PrintMore
open Go.Maps

/-- What the index holds behind so many places. -/
noncomputable def Dm (l : List S33) : Nat → DataW Unit
  | 0 => .map []
  | k + 1 => if has (Dm l k) (kl (rd_T33 l k)) then Dm l k else (Dm l k).put (kl (rd_T33 l k)) (.lit (.int .i64 k))
theorem Dm_succ (l : List S33) (k : Nat) : Dm l (k + 1) = if has (Dm l k) (kl (rd_T33 l k)) then Dm l k else (Dm l k).put (kl (rd_T33 l k)) (.lit (.int .i64 k)) := rfl
def Wf33 (l : List S33) : Prop := ∀ k : Nat, wf33 (rd_T33 l k)
theorem Wf33.of {l : List S33} (h : ∀ x ∈ l, wf33 x) : Wf33 l := by
  intro k
  by_cases hk : k < l.length
  · have e : rd_T33 l (k : Nat) = l[k] := by simp [rd_T33, List.getD, hk]
    rw [e]; exact h _ (List.getElem_mem hk)
  · have e : rd_T33 l (k : Nat) = z33 := by simp [rd_T33, List.getD, List.getElem?_eq_none (Nat.le_of_not_lt hk)]
    rw [e]; exact ⟨by decide, by decide, by decide⟩
theorem kl_key {x : S33} (h : wf33 x) : WideAt.IsKeyLit (kl x) := law33.key (key33 h)
theorem Dm_tidy {l : List S33} (hw : Wf33 l) : ∀ k, Tidy (Dm l k)
  | 0 => tidy_empty
  | k + 1 => by
    rw [Dm_succ]
    split
    · exact Dm_tidy hw k
    · exact (Dm_tidy hw k).put (kl_key (hw k)) _
theorem Dm_has {l : List S33} (hw : Wf33 l) {x : S33} (hx : wf33 x) : ∀ k, has (Dm l k) (kl x) = true ↔ ∃ j, j < k ∧ rd_T33 l (j : Nat) = x := by
  intro k
  induction k with
  | zero => simp [Dm, has_eq]
  | succ k ih =>
    rw [Dm_succ]
    by_cases he : rd_T33 l (k : Nat) = x
    · subst he
      constructor
      · intro _; exact ⟨k, by omega, rfl⟩
      · intro _
        split
        · assumption
        · exact has_put_same (Dm_tidy hw k).isMap (kl_key hx) _
    · have hne : kl x ≠ kl (rd_T33 l (k : Nat)) := fun h => he (kl_inj (hw k) hx h.symm)
      have hh : has (if has (Dm l k) (kl (rd_T33 l k)) then Dm l k else (Dm l k).put (kl (rd_T33 l k)) (.lit (.int .i64 k))) (kl x) = has (Dm l k) (kl x) := by
        split
        · rfl
        · exact has_put_other hne _
      rw [hh, ih]
      constructor
      · rintro ⟨j, h1, h2⟩; exact ⟨j, by omega, h2⟩
      · rintro ⟨j, h1, h2⟩
        refine ⟨j, ?_, h2⟩
        rcases Nat.lt_succ_iff_lt_or_eq.1 h1 with h3 | rfl
        · exact h3
        · exact absurd h2 he
theorem Dm_at {l : List S33} (hw : Wf33 l) {x : S33} (hx : wf33 x) {f : Nat} (hf : rd_T33 l (f : Nat) = x) (hl : ∀ j : Nat, j < f → rd_T33 l (j : Nat) ≠ x) : ∀ k, f < k → ∀ z, (Dm l k).atKey (kl x) z = .lit (.int .i64 f) := by
  intro k
  induction k with
  | zero => intro h; omega
  | succ k ih =>
    intro h z
    rw [Dm_succ]
    by_cases hk : f = k
    · subst hk
      rw [hf]
      have : ¬ has (Dm l f) (kl x) = true := by
        rw [Dm_has hw hx]
        rintro ⟨j, h1, h2⟩
        exact hl j h1 h2
      rw [if_neg this]
      exact atKey_put_same (Dm_tidy hw f).isMap (kl_key hx) _ _
    · have hlt : f < k := by omega
      by_cases he : rd_T33 l (k : Nat) = x
      · rw [he, if_pos ((Dm_has hw hx k).2 ⟨f, hlt, hf⟩)]
        exact ih hlt z
      · have hne : kl x ≠ kl (rd_T33 l (k : Nat)) := fun h => he (kl_inj (hw k) hx h.symm)
        split
        · exact ih hlt z
        · rw [atKey_put_other hne]; exact ih hlt z
/-- How many places, of so many, are not said before. -/
noncomputable def cnt (l : List S33) : Nat → Nat
  | 0 => 0
  | k + 1 => open Classical in cnt l k + (if ∃ j : Nat, j < k ∧ rd_T33 l (j : Nat) = rd_T33 l (k : Nat) then 0 else 1)
theorem cnt_old {l : List S33} {k : Nat} (h : ∃ j : Nat, j < k ∧ rd_T33 l (j : Nat) = rd_T33 l (k : Nat)) : cnt l (k + 1) = cnt l k := by simp only [cnt]; rw [if_pos h]; rfl
theorem cnt_new {l : List S33} {k : Nat} (h : ¬ ∃ j : Nat, j < k ∧ rd_T33 l (j : Nat) = rd_T33 l (k : Nat)) : cnt l (k + 1) = cnt l k + 1 := by simp only [cnt]; rw [if_neg h]
theorem cnt_le (l : List S33) : ∀ k, cnt l k ≤ k
  | 0 => Nat.le_refl _
  | k + 1 => by
    have := cnt_le l k
    simp only [cnt]
    split <;> omega
theorem Dm_size {l : List S33} (hw : Wf33 l) : ∀ k, Maps.size (Dm l k) = cnt l k := by
  intro k
  induction k with
  | zero => rfl
  | succ k ih =>
    rw [Dm_succ]
    by_cases h : has (Dm l k) (kl (rd_T33 l k)) = true
    · rw [if_pos h, ih, cnt_old ((Dm_has hw (hw k) k).1 h)]
    · rw [if_neg h, size_put (Dm_tidy hw k), if_neg h, ih, cnt_new fun x => h ((Dm_has hw (hw k) k).2 x)]

set_option maxRecDepth 100000 in
set_option maxHeartbeats 8000000 in
/-- The index of any places: a new map. -/
theorem index_calls (A0 : Value) (A : Option Addr) (c : Nat) (l : List S33) (w : World) (hr : Kd.C k33 w A l.length l) (hc : l.length ≤ c) (hl : l.length ≤ 1000) (hw : Wf33 l) :
    Calls Tryz.prog 7 #[.agg #[A0, .slice A l.length c]] w fun e w' => ∃ b, e = .returned (.map (some b)) ∧ w.heap.size ≤ b ∧ w'.ownsMap Tryz.prog 33 (plainElem Tryz.prog 3) b l.length (Dm l l.length) ∧ Below w.heap.size w w' := by
  have hu27 := Tryz.underlying27
  have hu33 := Tryz.underlying33
  have hmm := @run_makeMap Tryz.prog
  have hW := Aside0.mk hw
  clear hw
  have hHR := Aside0.mk hr
  clear hr
  go_enter Tryz.func7, Tryz.ntmps7
  go_wp2
  go_loopg [12] l.length (fun gk v12 wr => ∃ i : Nat, v12 = .int .i64 i ∧ Aside0 (i + gk = l.length) ∧ Aside0 (wr.ownsMap Tryz.prog 33 (plainElem Tryz.prog 3) (w.heap.size + 1) i (Dm l i)) ∧ Aside0 (Below w.heap.size w wr) ∧ Aside0 (w.heap.size + 2 ≤ wr.heap.size))
  case atStart =>
    have e1 : (w.alloc (Obj.cells #[A0, Value.slice A l.length c] 27)).heap.size = w.heap.size + 1 := by simp
    refine ⟨0, rfl, ⟨by omega⟩, ⟨?_⟩, ⟨?_⟩, ⟨?_⟩⟩
    · have := World.ownsMap_made (w.alloc (Obj.cells #[A0, Value.slice A l.length c] 27)) Tryz.prog 33 (plainElem (H := Unit) Tryz.prog 3)
      rw [e1] at this; exact this
    · exact ((Below.refl _ _).alloc (Nat.le_refl _) _).alloc (by simp) _
    · simp
  case round =>
    obtain ⟨i, rfl, hi, hOwn, hB, hsz⟩ := hrel
    have hi := hi.out
    by_cases hlt : i < l.length
    · obtain ⟨ad, e0, hx0, hx1, hx2⟩ := at_T33 hHR.out (i : Int) (by omega) (by omega)
      subst e0
      replace hx0 := (hB.out.cell (World.block_lt_of_cell? w _ hx0)).trans hx0
      replace hx1 := (hB.out.cell (World.block_lt_of_cell? w _ hx1)).trans hx1
      replace hx2 := (hB.out.cell (World.block_lt_of_cell? w _ hx2)).trans hx2
      simp only [Int.toNat_natCast] at hx0 hx1 hx2
      go_wp2_with (first
        | (at_lookup; refine wpList_lookup_own_ok_int _ rfl _ _ 30 rfl 33 3 .i64 law33 Tryz.underlying30 Tryz.underlying3 (zero3 _) (w.heap.size + 1) i _ rfl (hOwn.out.alloc _) _ _ rfl (key33 (hW.out i)) ?_; intro q hat hwc)
        | (at_mapUpdate; refine wpList_mapUpdate_own _ rfl _ _ _ 30 rfl 33 3 law33 Tryz.underlying30 _ (w.heap.size + 1) i _ rfl (hOwn.out.alloc _) (by unfold maxLen; omega) _ _ _ rfl rfl (key33 (hW.out i)) _ [] (plainElem_int Tryz.underlying3 (WalkArith.wf_i64 (by omega))) ?_; intro w1 hown1 hgrow1)
        | go_in)
      · rename_i hno
        go_roundg (gk - 1)
        case measure => omega
        case rel =>
          have hno' : ¬ has (Dm l i) (kl (rd_T33 l i)) = true := by simpa using hno
          refine ⟨i + 1, by go_num, ⟨by omega⟩, ⟨?_⟩, ⟨?_⟩, ⟨?_⟩⟩
          · rw [Dm_succ, if_neg hno']; exact hown1
          · exact (hB.out.alloc (by have := hsz.out; omega) _).grown hgrow1 (by have := hsz.out; simp; omega) (fun j hj => by cases hj; omega)
          · have h1 := hgrow1.size; have h2 := hsz.out; simp at h1; omega
      · rename_i hno
        go_roundg (gk - 1)
        case measure => omega
        case rel =>
          have hno' : has (Dm l i) (kl (rd_T33 l i)) = true := by simpa using hno
          refine ⟨i + 1, by go_num, ⟨by omega⟩, ⟨?_⟩, ⟨?_⟩, ⟨?_⟩⟩
          · rw [Dm_succ, if_pos hno']; exact (hOwn.out.alloc _).mono (by omega)
          · exact hB.out.alloc (by have := hsz.out; omega) _
          · have h2 := hsz.out; simp; omega
    · go_wp2
      go_ret
      have : i = l.length := by omega
      subst this
      exact ⟨_, rfl, by omega, hOwn.out, hB.out⟩
end Go.Proofs.YtbapfjjegbbmfaaGreatDoor.POrderPages
