/-
  GatherAlone's plain law: what gathering reads of pages stays when spots say nothing but what they show; how many there are.
-/
import Derived.Test.YtbapfjjegbbmfaaGreatDoorGa8
import Derived.Test.YtbapfjjegbbmfaaGreatDoorGmany
import Derived.Test.YtbapfjjegbbmfaaGreatDoorGstrip
set_option linter.unusedVariables false
set_option linter.unusedSimpArgs false
namespace Go.Proofs.YtbapfjjegbbmfaaGreatDoor.PGatherAlone
open Go.RowKit Go.Proofs.YtbapfjjegbbmfaaGreatDoorW.PrintWords Go.Proofs.YtbapfjjegbbmfaaGreatDoorW.PrintLast Go.Proofs.YtbapfjjegbbmfaaGreatDoorW.PrintMore

def sp1 (s : S60) : S60 := ⟨0, s.f1, s.f2, 0⟩
def ln1 (l : S56) : S56 := ⟨l.f0.map sp1, 0, 0⟩
def pg1 (p : S43) : S43 := ⟨p.f0.map ln1, p.f1.map ln1⟩
/-- From some rounds on it answers so. -/
def Tot {α : Type} (g : Nat → Option α) (r : α) : Prop := ∃ k0, ∀ k, k0 ≤ k → g k = some r
theorem Tot.step {α : Type} {g h : Nat → Option α} {r : α} (hs : ∀ k, g (k + 1) = h k) (ht : Tot h r) : Tot g r := by
  obtain ⟨k0, hk⟩ := ht
  refine ⟨k0 + 1, fun k h1 => ?_⟩
  obtain ⟨m, rfl⟩ : ∃ m, k = m + 1 := ⟨k - 1, by omega⟩
  rw [hs]; exact hk m (by omega)
theorem Tot.now {α : Type} {g : Nat → Option α} {r : α} (hs : ∀ k, g (k + 1) = some r) : Tot g r := ⟨1, fun k h1 => by
  obtain ⟨m, rfl⟩ : ∃ m, k = m + 1 := ⟨k - 1, by omega⟩
  exact hs m⟩
theorem wrap_nat {i : Nat} (h : i < 9223372036854775807) : wrap64 ((i : Int) + 1) = ((i + 1 : Nat) : Int) := by unfold wrap64; omega
/-! ### stripped -/
def Bl (l : List S56) : Prop := l.length ≤ 3518437208800 ∧ ∀ x ∈ l, x.f0.length < 4398046511104
theorem rd56_mem {l : List S56} {i : Nat} (h : i < l.length) : rd_T56 l (i : Nat) = l[i] := by simp [rd_T56, List.getD, h]
theorem rd60_mem {l : List S60} {i : Nat} (h : i < l.length) : rd_T60 l (i : Nat) = l[i] := by simp [rd_T60, List.getD, h]
theorem strip_l1 (x0 x3 : List S56) (r : List S56) (i : Nat) (hi : i < x0.length) (hx : (rd_T56 x0 (i : Nat)).f0.length < 4398046511104) (hi2 : i < 9223372036854775807) (h3 : x3.length < 3518437208883)
    (hl0 : Tot (fun k => styluslaw24_stripped.l0 k x0 (x3 ++ [ln1 (rd_T56 x0 (i : Nat))]) ((i + 1 : Nat) : Int)) r) :
    ∀ (d j : Nat), j + d = (rd_T56 x0 (i : Nat)).f0.length → Tot (fun k => styluslaw24_stripped.l1 k x0 x3 (i : Nat) (j : Nat) (((rd_T56 x0 (i : Nat)).f0.take j).map sp1) 0 0) r := by
  intro d
  induction d with
  | zero =>
    intro j hj
    refine Tot.step (fun k => ?_) hl0
    simp only [styluslaw24_stripped.l1]
    rw [if_pos (by omega), if_pos (by omega), if_neg (by omega), if_pos h3, wrap_nat hi2]
    rw [show j = (rd_T56 x0 (i : Nat)).f0.length by omega, List.take_length]
    rfl
  | succ d ih =>
    intro j hj
    have := ih (j + 1) (by omega)
    have et : ((rd_T56 x0 (i : Nat)).f0.take (j + 1)).map sp1 = ((rd_T56 x0 (i : Nat)).f0.take j).map sp1 ++ [sp1 (rd_T60 (rd_T56 x0 (i : Nat)).f0 (j : Nat))] := by
      rw [List.take_add_one, List.getElem?_eq_getElem (by omega), rd60_mem (by omega), List.map_append]; rfl
    rw [et] at this
    refine Tot.step (fun k => ?_) this
    simp only [styluslaw24_stripped.l1]
    rw [if_pos (by omega), if_pos (by omega), if_pos (by omega), if_pos (by omega), if_pos (by rw [List.length_map, List.length_take]; omega), wrap_nat (by omega)]
    rfl
theorem strip_l0 (x0 : List S56) (hb : Bl x0) : ∀ (d i : Nat), i + d = x0.length → Tot (fun k => styluslaw24_stripped.l0 k x0 ((x0.take i).map ln1) (i : Nat)) (x0.map ln1) := by
  intro d
  induction d with
  | zero =>
    intro i hi
    refine Tot.now fun k => ?_
    simp only [styluslaw24_stripped.l0]
    rw [if_neg (by omega), show i = x0.length by omega, List.take_length]
  | succ d ih =>
    intro i hi
    have h1 := ih (i + 1) (by omega)
    have hb1 := hb.1
    have hlt : i < x0.length := by omega
    rw [List.take_add_one, List.getElem?_eq_getElem hlt] at h1
    simp only [Option.toList_some, List.map_append, List.map_cons, List.map_nil] at h1
    rw [← rd56_mem hlt] at h1
    have h2 := strip_l1 x0 ((x0.take i).map ln1) (x0.map ln1) i hlt (by rw [rd56_mem hlt]; exact hb.2 _ (List.getElem_mem hlt)) (by omega) (by rw [List.length_map, List.length_take]; omega) h1 _ 0 (Nat.zero_add _)
    refine Tot.step (fun k => ?_) h2
    simp only [styluslaw24_stripped.l0]
    rw [if_pos (by omega)]
    rfl
theorem strip_eq (x0 : List S56) (hb : Bl x0) : ∃ k, styluslaw24_stripped.f k x0 = some (x0.map ln1) := by
  obtain ⟨k, hk⟩ := strip_l0 x0 hb x0.length 0 (by omega)
  exact ⟨k, hk k (Nat.le_refl _)⟩
/-! ### many -/
def Bp (p : List S43) : Prop := p.length ≤ 3518437208800 ∧ ∀ x ∈ p, Bl x.f0 ∧ Bl x.f1
theorem rd43_mem {l : List S43} {i : Nat} (h : i < l.length) : rd_T43 l (i : Nat) = l[i] := by simp [rd_T43, List.getD, h]
def Fine (x0 : List S43) (i : Nat) : Prop := ∀ q : Nat, i ≤ q → q < x0.length → (rd_T43 x0 (q : Nat)).f0.length + (rd_T43 x0 (q : Nat)).f1.length ≤ 40
theorem line_some (a b : List S56) (j : Nat) (ha : a.length ≤ 3518437208800) (hb : b.length ≤ 3518437208800) (hj : j < a.length + b.length) : ∃ r, stylusref23_Line.f a b (j : Nat) = some r := by
  unfold stylusref23_Line.f
  by_cases h : (j : Int) < a.length
  · rw [if_pos h, if_pos (by omega)]; exact ⟨_, rfl⟩
  · have e : wrap64 ((j : Int) - a.length) = (j : Int) - a.length := by unfold wrap64; omega
    rw [if_neg h, e, if_pos (by omega), if_pos (by omega)]; exact ⟨_, rfl⟩
theorem many_l (x0 : List S43) (hb : Bp x0) : ∀ (d i : Nat), i + d = x0.length → ∀ x5 : Int, ∃ r, Tot (fun k => styluslaw24_many.l0 k x0 x5 (i : Nat)) r ∧ (r = false → Fine x0 i) := by
  intro d
  induction d with
  | zero =>
    intro i hi x5
    refine ⟨decide (x5 > 600), Tot.now fun k => ?_, fun _ q h1 h2 => by omega⟩
    simp only [styluslaw24_many.l0]
    rw [if_neg (by omega)]
  | succ d ih =>
    intro i hi x5
    have hlt : i < x0.length := by omega
    have hpg := hb.2 _ (List.getElem_mem hlt)
    rw [← rd43_mem hlt] at hpg
    obtain ⟨p, hp⟩ : ∃ p, p = rd_T43 x0 (i : Nat) := ⟨_, rfl⟩
    rw [← hp] at hpg
    have b0 := hpg.1.1
    have b1 := hpg.2.1
    have hb1 := hb.1
    have ew : wrap64 ((p.f0.length : Int) + (p.f1.length : Int)) = ((p.f0.length + p.f1.length : Nat) : Int) := by unfold wrap64; omega
    by_cases h40 : p.f0.length + p.f1.length ≤ 40
    · have inner : ∀ (e j : Nat), j + e = p.f0.length + p.f1.length → ∀ x5 : Int, ∃ r, Tot (fun k => styluslaw24_many.l1 k x0 x5 (i : Nat) (j : Nat)) r ∧ (r = false → Fine x0 (i + 1)) := by
        intro e
        induction e with
        | zero =>
          intro j hj x5
          obtain ⟨r, h1, h2⟩ := ih (i + 1) (by omega) x5
          refine ⟨r, Tot.step (fun k => ?_) h1, h2⟩
          simp only [styluslaw24_many.l1]
          rw [← hp, ew, if_pos (by omega), if_pos (by omega), if_neg (by omega), wrap_nat (by omega)]
        | succ e ihe =>
          intro j hj x5
          obtain ⟨⟨a1, a2, a3⟩, hln⟩ := line_some p.f0 p.f1 j b0 b1 (by omega)
          obtain ⟨r, h1, h2⟩ := ihe (j + 1) (by omega) (wrap64 (x5 + (a1.length : Int)))
          refine ⟨r, Tot.step (fun k => ?_) h1, h2⟩
          simp only [styluslaw24_many.l1]
          rw [← hp, ew, if_pos (by omega), if_pos (by omega), if_pos (by omega), hln, Option.bind_some, wrap_nat (by omega)]
      obtain ⟨r, h1, h2⟩ := inner _ 0 (Nat.zero_add _) x5
      refine ⟨r, Tot.step (fun k => ?_) h1, fun hr q q1 q2 => ?_⟩
      · simp only [styluslaw24_many.l0]
        rw [if_pos (by omega), if_pos (by omega), ← hp, ew, if_neg (by omega)]
        rfl
      · by_cases hq : q = i
        · subst hq; rw [← hp]; exact h40
        · exact h2 hr q (by omega) q2
    · refine ⟨true, Tot.now fun k => ?_, fun h => by cases h⟩
      simp only [styluslaw24_many.l0]
      rw [if_pos (by omega), if_pos (by omega), ← hp, ew, if_pos (by omega)]
theorem many_eq (p : List S43) (nl : List S53) (pl : List S33) (hb : Bp p) : ∃ k r, styluslaw24_many.f k p nl pl = some r ∧ (r = false → p.length ≤ 20 ∧ nl.length ≤ 200 ∧ pl.length ≤ 400 ∧ Fine p 0) := by
  unfold styluslaw24_many.f
  by_cases h1 : (p.length : Int) > 20
  · exact ⟨1, true, by rw [if_pos h1]; simp [styluslaw24_many.j0], fun h => by cases h⟩
  by_cases h2 : (nl.length : Int) > 200
  · exact ⟨1, true, by rw [if_neg h1, if_pos h2]; simp [styluslaw24_many.j0], fun h => by cases h⟩
  by_cases h3 : (pl.length : Int) > 400
  · exact ⟨1, true, by rw [if_neg h1, if_neg h2, decide_eq_true h3]; simp [styluslaw24_many.j0], fun h => by cases h⟩
  obtain ⟨r, ⟨k, hk⟩, hr⟩ := many_l p hb p.length 0 (by omega) 0
  refine ⟨k + 1, r, ?_, fun h => ⟨by omega, by omega, by omega, hr h⟩⟩
  rw [if_neg h1, if_neg h2, decide_eq_false h3]
  simp only [styluslaw24_many.j0]
  rw [if_neg (by simp)]
  exact hk k (Nat.le_refl _)
/-! ### What is read -/
theorem rd56_map (l : List S56) (i : Int) (h0 : 0 ≤ i) (h1 : i < (l.length : Int)) : rd_T56 (l.map ln1) i = ln1 (rd_T56 l i) := by
  obtain ⟨n, rfl⟩ : ∃ n : Nat, i = n := ⟨i.toNat, by omega⟩
  rw [rd56_mem (by rw [List.length_map]; omega), rd56_mem (by omega), List.getElem_map]
theorem rd43_map (l : List S43) (i : Int) (h0 : 0 ≤ i) (h1 : i < (l.length : Int)) : rd_T43 (l.map pg1) i = pg1 (rd_T43 l i) := by
  obtain ⟨n, rfl⟩ : ∃ n : Nat, i = n := ⟨i.toNat, by omega⟩
  rw [rd43_mem (by rw [List.length_map]; omega), rd43_mem (by omega), List.getElem_map]
theorem rd60_map (l : List S60) (i : Int) (h0 : 0 ≤ i) (h1 : i < (l.length : Int)) : rd_T60 (l.map sp1) i = sp1 (rd_T60 l i) := by
  obtain ⟨n, rfl⟩ : ∃ n : Nat, i = n := ⟨i.toNat, by omega⟩
  rw [rd60_mem (by rw [List.length_map]; omega), rd60_mem (by omega), List.getElem_map]
theorem look_map (pgs : List S43) (x : S33) : look (pgs.map pg1) x = (look pgs x).map ln1 := by
  unfold look
  rw [List.length_map]
  by_cases h : x.f0 < 1 ∨ (pgs.length : Int) < x.f0 ∨ x.f1 < 0
  · rw [if_pos h, if_pos h]; rfl
  rw [if_neg h, if_neg h]
  rw [rd43_map pgs (x.f0 - 1) (by omega) (by omega)]
  simp only [pg1, List.length_map]
  by_cases h1 : x.f1 < ((rd_T43 pgs (x.f0 - 1)).f0.length : Int)
  · rw [if_pos h1, if_pos h1, rd56_map _ _ (by omega) h1]; rfl
  rw [if_neg h1, if_neg h1]
  by_cases h2 : x.f1 - ((rd_T43 pgs (x.f0 - 1)).f0.length : Int) < ((rd_T43 pgs (x.f0 - 1)).f1.length : Int)
  · rw [if_pos h2, if_pos h2, rd56_map _ _ (by omega) h2]; rfl
  · rw [if_neg h2, if_neg h2]; rfl
theorem tk_map (pgs : List S43) : tk (pgs.map pg1) = tk pgs := by
  funext x
  unfold tk
  rw [look_map]
  cases look pgs x with
  | none => rfl
  | some l =>
    simp only [Option.map_some, ln1, List.length_map]
    by_cases h1 : x.f2 < 0
    · rw [if_pos h1, if_pos h1]
    rw [if_neg h1, if_neg h1]
    by_cases h2 : (l.f0.length : Int) < x.f2
    · rw [if_pos h2, if_pos h2]
    rw [if_neg h2, if_neg h2]
    by_cases h3 : x.f2 = (l.f0.length : Int)
    · rw [if_pos h3, if_pos h3]
    rw [if_neg h3, if_neg h3, rd60_map _ _ (by omega) (by omega)]
    rfl
theorem txt_map (pgs : List S43) : ∀ l, txt (pgs.map pg1) l = txt pgs l
  | [] => rfl
  | x :: r => by simp only [txt, tk_map, txt_map pgs r]
theorem body_map (pgs : List S43) : bodyF (pgs.map pg1) = bodyF pgs := by
  funext pl st x a b
  simp only [bodyF, textsF, txt_map]
theorem shut_map (pgs : List S43) (pl : List S33) (at_ : Int) : ∀ n os ks st, shutF (pgs.map pg1) pl at_ n os ks st = shutF pgs pl at_ n os ks st
  | 0, _, _, _ => rfl
  | n + 1, os, ks, st => by
    simp only [shutF, body_map]
    congr 1
    congr 1
    funext s
    exact shut_map pgs pl at_ n _ _ s
theorem iter_map (pgs : List S43) (pl : List S33) (nl : List S53) : ∀ k i os ks st, iterF (pgs.map pg1) pl nl k i os ks st = iterF pgs pl nl k i os ks st
  | 0, i, os, ks, st => by simp only [iterF, shut_map]
  | k + 1, i, os, ks, st => by
    simp only [iterF, shut_map, body_map]
    congr 1
    funext r
    congr 1
    funext s
    rw [iter_map pgs pl nl k, iter_map pgs pl nl k]
theorem read_map (pgs : List S43) (pl : List S33) (nl : List S53) : readF (pgs.map pg1) pl nl = readF pgs pl nl := by
  unfold readF
  rw [iter_map]
end Go.Proofs.YtbapfjjegbbmfaaGreatDoor.PGatherAlone
