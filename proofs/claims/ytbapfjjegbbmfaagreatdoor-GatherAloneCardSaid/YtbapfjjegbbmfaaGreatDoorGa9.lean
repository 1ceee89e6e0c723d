/-
  Gathering pages along an order: what it answers, in every world.
-/
import Derived.Test.YtbapfjjegbbmfaaGreatDoorGa8
set_option linter.unusedVariables false
set_option linter.unusedSimpArgs false
namespace Go.Proofs.YtbapfjjegbbmfaaGreatDoor.PGatherAlone
open Go.RowKit Go.Proofs.YtbapfjjegbbmfaaGreatDoorW.PrintWords Go.Proofs.YtbapfjjegbbmfaaGreatDoorW.PrintLast Go.Proofs.YtbapfjjegbbmfaaGreatDoorW.PrintMore

/-- What gathering answers: the tokens, or the error's number. -/
def OfR (w : World) (r : Option (List S51)) (e : Ending) (w' : World) : Prop :=
  Below w.heap.size w w' ∧ ∃ v, e = .returned (.tuple #[v, .int .i64 (if r.isSome = true then 0 else 1)]) ∧ Kd.R k51 51 w' w.heap.size (fun _ => True) v (r.getD [])
set_option maxRecDepth 100000 in
set_option maxHeartbeats 8000000 in
theorem of_calls (Ag Ap An : Option Addr) (cg cp cn : Nat) (pgs : List S43) (pl : List S33) (nl : List S53) (w : World) (hp : Kd.C k43 w Ag pgs.length pgs) (hpl : Kd.C k33 w Ap pl.length pl) (hcp : pl.length ≤ cp) (hn : Kd.C k53 w An nl.length nl)
    (hpw : ∀ y ∈ pl, wf33 y) (hl : pl.length ≤ 400) (hnl : nl.length ≤ 200) :
    Calls Tryz.prog 14 #[.slice Ag pgs.length cg, .agg #[.slice An nl.length cn, .slice Ap pl.length cp]] w (OfR w (readF pgs pl nl)) := by
  have hu63 := Tryz.underlying63
  have hu27 := Tryz.underlying27
  obtain ⟨w2, hw2⟩ : ∃ w2, (w.alloc (.cells #[.slice An nl.length cn, .slice Ap pl.length cp] 27)).alloc (.cells #[.slice An nl.length cn, .slice Ap pl.length cp, .slice Ag pgs.length cg, .slice none 0 0] 63) = w2 := ⟨_, rfl⟩
  have hb2 : Below w.heap.size w w2 := by rw [← hw2]; exact two_alloc _ _ _
  have hG : w2.heap[w.heap.size + 1]? = some (gcells (.slice An nl.length cn) (.slice Ap pl.length cp) Ag pgs.length cg (.slice none 0 0)) := by
    rw [← hw2]; have := blk_new (w.alloc (.cells #[.slice An nl.length cn, .slice Ap pl.length cp] 27)) (.cells #[.slice An nl.length cn, .slice Ap pl.length cp, .slice Ag pgs.length cg, .slice none 0 0] 63); simpa [gcells] using this
  have hR := read_calls w (w.heap.size + 1) Ag Ap An cg cp cn pgs pl nl w2 hp hpl hcp hn hpw hl hnl ⟨_, hG, Kd.R_nil _ _ _ _ _, hb2⟩ (by omega)
  have HR := Aside0.mk hR
  have HW := Aside0.mk hw2
  clear hR hb2 hG hp hpl hcp hn hpw hl hnl hw2
  go_enter Tryz.func14, Tryz.ntmps14
  go_wp2_with (go_at_call 20; refine Aside0.out ?_)
  rw [HW.out]
  refine ⟨HR.out.mono ?_⟩
  clear HR HW
  rintro e w3 ⟨rfl, ov, out, q1, q2, q3, q4⟩
  have c3 : w3.cell? ⟨w.heap.size + 1, 3, none⟩ = some ov := (blk_cell q1 3).trans rfl
  have Q2 := Aside0.mk q2
  have Q3 := Aside0.mk q3
  clear q1 q2 q3
  cases hr : readF pgs pl nl with
  | none =>
    clear q4
    simp only [hr, Option.isSome_none]
    go_wp2
    (try simp only [Exit.inBlock, Exit.then]); refine bodyPost_ret (results_tmp2 rfl _ _ _) rfl ?_
    exact ⟨Q3.out, .slice none 0 0, by rw [hr]; rfl, by rw [hr]; exact Kd.R_nil _ _ _ _ _⟩
  | some l =>
    obtain rfl := q4 l hr
    clear q4
    simp only [hr, Option.isSome_some]
    go_wp2
    (try simp only [Exit.inBlock, Exit.then]); refine bodyPost_ret (results_tmp2 rfl _ _ _) rfl ?_
    exact ⟨Q3.out, ov, by rw [hr]; rfl, by rw [hr]; exact Q2.out⟩
end Go.Proofs.YtbapfjjegbbmfaaGreatDoor.PGatherAlone
