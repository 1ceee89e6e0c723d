/-
  The plain law of OrderPages: both pages of an offset are one; an order is the same as itself.
-/
import Derived.Test.YtbapfjjegbbmfaaGreatDoorPage
import Derived.Test.YtbapfjjegbbmfaaGreatDoorPOrderPagesx20
namespace Go.Proofs.YtbapfjjegbbmfaaGreatDoor.POrderPages
open Go.RowKit Go.Proofs.YtbapfjjegbbmfaaGreatDoorW.PrintWords Go.Proofs.YtbapfjjegbbmfaaGreatDoorW.PrintLast Go.Proofs.YtbapfjjegbbmfaaGreatDoorW.PrintMore

/-- The page of the last of so many tokens that is not behind the offset. -/
def pgv (l0 : List S51) (l1 : List Int) (x : Int) : Nat → Int
  | 0 => 1
  | n + 1 => if (rd_T51 l0 (n : Nat)).f2 ≤ x then rd l1 (n : Nat) else pgv l0 l1 x n
theorem wrap_in {n : Int} (h0 : -4611686018427387904 ≤ n) (h1 : n ≤ 4611686018427387904) : wrap64 n = n := by unfold wrap64; omega
theorem page_up (l0 : List S51) (l1 : List Int) (x : Int) (m : Nat) (h0 : m ≤ l0.length) (h1 : m ≤ l1.length) (hm : m ≤ 4611686018427387903) : ∀ (d i k : Nat), i + d = m → d < k → order_Page.l0 k l0 l1 x (pgv l0 l1 x i) m i = some (pgv l0 l1 x m) := by
  intro d
  induction d with
  | zero =>
    intro i k hi hk
    obtain ⟨k, rfl⟩ : ∃ q, k = q + 1 := ⟨k - 1, by omega⟩
    simp only [order_Page.l0]
    rw [if_neg (by omega)]
    have : i = m := by omega
    rw [this]
  | succ d ih =>
    intro i k hi hk
    obtain ⟨k, rfl⟩ : ∃ q, k = q + 1 := ⟨k - 1, by omega⟩
    simp only [order_Page.l0]
    have e : wrap64 ((i : Int) + 1) = ((i + 1 : Nat) : Int) := by rw [wrap_in (by omega) (by omega)]; omega
    rw [if_pos (by omega), if_pos (by omega), if_pos (by omega), e]
    have hstep := ih (i + 1) k (by omega) (by omega)
    simp only [pgv] at hstep
    by_cases hc : (rd_T51 l0 (i : Nat)).f2 ≤ x
    · rw [if_pos hc] at hstep
      rw [if_pos hc, if_pos (by omega)]
      exact hstep
    · rw [if_neg hc] at hstep
      rw [if_neg hc]
      exact hstep
theorem page_down (l0 : List S51) (l1 : List Int) (x : Int) : ∀ (n k : Nat), n ≤ l0.length → n ≤ l1.length → n ≤ 4611686018427387903 → n < k → stylusref23_Page.l0 k l0 l1 x ((n : Int) - 1) = some (pgv l0 l1 x n) := by
  intro n
  induction n with
  | zero =>
    intro k _ _ _ hk
    obtain ⟨k, rfl⟩ : ∃ q, k = q + 1 := ⟨k - 1, by omega⟩
    simp only [stylusref23_Page.l0]
    rw [if_neg (by omega)]
    rfl
  | succ n ih =>
    intro k h0 h1 h2 hk
    obtain ⟨k, rfl⟩ : ∃ q, k = q + 1 := ⟨k - 1, by omega⟩
    simp only [stylusref23_Page.l0]
    have e0 : ((n + 1 : Nat) : Int) - 1 = (n : Nat) := by omega
    have e : wrap64 ((n : Int) - 1) = (n : Int) - 1 := wrap_in (by omega) (by omega)
    rw [e0, if_pos (by omega), if_pos (by omega), if_pos (by omega), e]
    simp only [pgv]
    by_cases hc : (rd_T51 l0 (n : Nat)).f2 ≤ x
    · rw [if_pos hc, if_pos hc, if_pos (by omega)]
    · rw [if_neg hc, if_neg hc]
      exact ih k (by omega) (by omega) (by omega) (by omega)
theorem mn_min (a b : Nat) : mn (a : Int) (b : Int) = ((min a b : Nat) : Int) := by
  unfold mn; split <;> omega
theorem pages_eq (l0 : List S51) (l1 : List Int) (x : Int) (hm : l0.length ≤ 4611686018427387903) (k : Nat) (hk : l0.length < k) :
    order_Page.f k l0 l1 x = some (pgv l0 l1 x (min l0.length l1.length)) ∧ stylusref23_Page.f k l0 l1 x = some (pgv l0 l1 x (min l0.length l1.length)) := by
  constructor
  · unfold order_Page.f
    rw [mn_min]
    exact page_up l0 l1 x _ (Nat.min_le_left _ _) (Nat.min_le_right _ _) (by omega) (min l0.length l1.length) 0 k (by omega) (by omega)
  · unfold stylusref23_Page.f
    rw [mn_min, wrap_in (by omega) (by omega)]
    exact page_down l0 l1 x _ k (Nat.min_le_left _ _) (Nat.min_le_right _ _) (by omega) (by omega)
theorem same_l1 (n0 : List S53) (pl : List S33) (hm : pl.length ≤ 4611686018427387903) : ∀ (d i k : Nat), i + d = pl.length → d < k → stylusref23_Same.l1 k i n0 pl n0 pl = some true := by
  intro d
  induction d with
  | zero =>
    intro i k hi hk
    obtain ⟨k, rfl⟩ : ∃ q, k = q + 1 := ⟨k - 1, by omega⟩
    simp only [stylusref23_Same.l1]
    rw [if_neg (by omega)]
  | succ d ih =>
    intro i k hi hk
    obtain ⟨k, rfl⟩ : ∃ q, k = q + 1 := ⟨k - 1, by omega⟩
    simp only [stylusref23_Same.l1]
    have e : wrap64 ((i : Int) + 1) = ((i + 1 : Nat) : Int) := by rw [wrap_in (by omega) (by omega)]; omega
    rw [if_pos (by omega), if_pos (by omega), if_pos (by omega), if_neg (by simp), e]
    exact ih (i + 1) k (by omega) (by omega)
theorem same_l0 (n0 : List S53) (pl : List S33) (hn : n0.length ≤ 4611686018427387903) (hm : pl.length ≤ 4611686018427387903) : ∀ (d i k : Nat), i + d = n0.length → d + pl.length + 1 < k → stylusref23_Same.l0 k i n0 pl n0 pl = some true := by
  intro d
  induction d with
  | zero =>
    intro i k hi hk
    obtain ⟨k, rfl⟩ : ∃ q, k = q + 1 := ⟨k - 1, by omega⟩
    simp only [stylusref23_Same.l0]
    rw [if_neg (by omega)]
    exact same_l1 n0 pl hm pl.length 0 k (by omega) (by omega)
  | succ d ih =>
    intro i k hi hk
    obtain ⟨k, rfl⟩ : ∃ q, k = q + 1 := ⟨k - 1, by omega⟩
    simp only [stylusref23_Same.l0]
    have e : wrap64 ((i : Int) + 1) = ((i + 1 : Nat) : Int) := by rw [wrap_in (by omega) (by omega)]; omega
    rw [if_pos (by omega), if_pos (by omega), if_pos (by omega), if_neg (by simp), e]
    exact ih (i + 1) k (by omega) (by omega)
theorem same_eq (n0 : List S53) (pl : List S33) (hn : n0.length ≤ 4611686018427387903) (hm : pl.length ≤ 4611686018427387903) (k : Nat) (hk : n0.length + pl.length + 2 < k) : stylusref23_Same.f k n0 pl n0 pl = some true := by
  obtain ⟨k, rfl⟩ : ∃ q, k = q + 1 := ⟨k - 1, by omega⟩
  unfold stylusref23_Same.f
  rw [if_pos rfl]
  have : ((pl.length : Int) != (pl.length : Int)) = false := by simp
  rw [this]
  simp only [stylusref23_Same.j0]
  rw [if_neg (by decide)]
  exact same_l0 n0 pl hn hm n0.length 0 k (by omega) (by omega)
end Go.Proofs.YtbapfjjegbbmfaaGreatDoor.POrderPages
