/-
  A deterministic executor of the model's code, on local values and a local heap; what it says of a call holds in every world (part 2 of 2).
-/
import Derived.CallsIn
import Derived.OrdersIn
import Derived.RangeFuncLeaves
import Derived.RangeFuncRecord
import Derived.Scope
import Derived.Below
import Derived.Lib.Bytealg
import Derived.Test.YtbapfjjegbbmfaaGreatDoorXa
set_option linter.unusedVariables false
set_option linter.unusedSimpArgs false
/-
  One operation that calls no Go function: the executor's answer is the model's.
-/
namespace Go.X
variable {P : Program} {m : M} {h : H} {w : World}

/-- Nothing is known of places that are not taken yet. -/
def Tight (m : M) (h : H) : Prop := ∀ i, h.next ≤ i → m i = none
theorem Tight.none {h : H} (ht : Tight m h) : m h.next = none := ht _ (Nat.le_refl _)
theorem Step.tight {m' : M} {h' : H} {w' : World} (s : Step m h w m' h' w') (ht : Tight m h) : Tight m' h' := fun i hi => by rw [s.mle i (.inr hi)]; exact ht i (Nat.le_trans s.next hi)
def EvR (m : M) (f : Fr) (a : Act) (x : Operand) : Prop := ∀ v, ev f x = some v → VR m v (a.eval x)
theorem FrR.ev {f : Fr} {a : Act} (hf : FrR m f a.tmps) (x : Operand) : EvR m f a x := fun _ e => ev_VR hf e
theorem EvR.list {f : Fr} {a : Act} : ∀ {l : List Operand} {vs : List LV}, (∀ x ∈ l, EvR m f a x) → evs f l = some vs → VRs m vs (l.map a.eval) := by
  intro l
  induction l with
  | nil => intro vs _ e; simp [evs] at e; subst e; exact .nil
  | cons x l ih =>
    intro vs hx e
    simp only [evs] at e
    cases h1 : Go.X.ev f x with
    | none => simp [h1] at e
    | some y =>
      cases h2 : evs f l with
      | none => simp [h1, h2] at e
      | some ys =>
        simp only [h1, h2, Option.some.injEq] at e; subst e
        exact .cons (hx x (by simp) _ h1) (ih (fun z hz => hx z (by simp [hz])) h2)
theorem EvR.parts {f : Fr} {a : Act} : ∀ {l : List (Nat × Operand)} {ps : List (Nat × LV)}, (∀ x ∈ l.map (·.2), EvR m f a x) → evParts f l = some ps → PR m ps (l.map fun (i, x) => (i, a.eval x)) := by
  intro l
  induction l with
  | nil => intro ps _ e; simp [evParts] at e; subst e; exact .nil
  | cons p l ih =>
    intro ps hx e
    obtain ⟨i, o⟩ := p
    simp only [evParts] at e
    cases h1 : Go.X.ev f o with
    | none => simp [h1] at e
    | some x =>
      cases h2 : evParts f l with
      | none => simp [h1, h2] at e
      | some xs =>
        simp only [h1, h2, Option.some.injEq] at e; subst e
        exact .cons (hx o (by simp) _ h1) (ih (fun z hz => hx z (by simp at hz ⊢; exact .inr hz)) h2)
/-- What an operation yields. -/
def NextIs (nx : Next) (V : Value) : Prop := nx = .value V ∨ (nx = .skip ∧ V = undef)
def OpDoes (P : Program) (m : M) (h : H) (w : World) (s : Sem Next) (r : LV × H) : Prop := ∃ nx V w' m', s.run P w = .ok nx w' ∧ NextIs nx V ∧ Step m h w m' r.2 w' ∧ VR m' r.1 V
theorem OpDoes.val {s : Sem Value} {r : LV × H} (h1 : Does P m h w s r.1 r.2) : OpDoes P m h w (do pure (.value (← s))) r := by
  obtain ⟨V, w', m', a, b, c⟩ := h1
  exact ⟨.value V, V, w', m', by simp only [Sem.run_bind, a, Result.andThen_ok, Sem.run_pure], .inl rfl, b, c⟩
theorem undefL_VR : VR m undefL undef := .tuple .nil
theorem OpDoes.unit {s : Sem Unit} {h' : H} (h1 : ∃ w', s.run P w = .ok () w' ∧ Step m h w m h' w') : OpDoes P m h w (do s; pure .skip) (undefL, h') := by
  obtain ⟨w', a, b⟩ := h1
  exact ⟨.skip, undef, w', m, by simp only [Sem.run_bind, a, Result.andThen_ok, Sem.run_pure], .inr ⟨rfl, rfl⟩, b, undefL_VR⟩
theorem rv_some {x : Option LV} (e : rv h x ≠ .no) : ∃ v, x = some v ∧ rv h x = .one (v, h) := by
  cases x with
  | none => exact absurd rfl e
  | some v => exact ⟨v, rfl, rfl⟩
theorem ru_some {x : Option H} (e : ru x ≠ .no) : ∃ h', x = some h' ∧ ru x = .one (undefL, h') := by
  cases x with
  | none => exact absurd rfl e
  | some v => exact ⟨v, rfl, rfl⟩
theorem ofOpt_some {α : Type} {x : Option α} (e : R.ofOpt x ≠ .no) : ∃ v, x = some v ∧ R.ofOpt x = .one v := by
  cases x with
  | none => exact absurd rfl e
  | some v => exact ⟨v, rfl, rfl⟩
theorem e1_some {f : Fr} {x : Operand} {g : LV → R (LV × H)} (e : e1 f x g ≠ .no) : ∃ v, ev f x = some v ∧ e1 f x g = g v := by
  unfold e1 at e ⊢
  cases hx : Go.X.ev f x with
  | none => simp [hx] at e
  | some v => exact ⟨v, rfl, rfl⟩
/-- One answer, which is the model's. -/
def Fits (P : Program) (m : M) (h : H) (w : World) (s : Sem Next) (x : R (LV × H)) : Prop := x ≠ .no → ∃ r, x.has r ∧ OpDoes P m h w s r
theorem Fits.rv (hr : HR m h w) {s : Sem Value} {x : Option LV} (hx : ∀ v, x = some v → ∃ V, s.run P w = .ok V w ∧ VR m v V) : Fits P m h w (do pure (.value (← s))) (rv h x) := by
  intro e
  obtain ⟨v, e1, e2⟩ := rv_some e
  obtain ⟨V, a, b⟩ := hx v e1
  exact ⟨(v, h), by rw [e2]; rfl, .val (.of hr a b)⟩
theorem Fits.opt {s : Sem Value} {x : Option (LV × H)} (hx : ∀ v h', x = some (v, h') → Does P m h w s v h') : Fits P m h w (do pure (.value (← s))) (R.ofOpt x) := by
  intro e
  obtain ⟨v, e1, e2⟩ := ofOpt_some e
  exact ⟨v, by rw [e2]; rfl, .val (hx v.1 v.2 e1)⟩
theorem Fits.unit {s : Sem Unit} {x : Option H} (hx : ∀ h', x = some h' → ∃ w', s.run P w = .ok () w' ∧ Step m h w m h' w') : Fits P m h w (do s; pure .skip) (ru x) := by
  intro e
  obtain ⟨v, e1, e2⟩ := ru_some e
  exact ⟨(undefL, v), by rw [e2]; rfl, .unit (hx v e1)⟩
theorem Fits.e1 {f : Fr} {x : Operand} {g : LV → R (LV × H)} {s : Sem Next} (hg : ∀ v, ev f x = some v → Fits P m h w s (g v)) : Fits P m h w s (e1 f x g) := by
  intro e
  obtain ⟨v, h1, h2⟩ := e1_some e
  rw [h2] at e ⊢
  exact hg v h1 e
theorem Fits.eO {f : Fr} {a : Act} {x : Option Operand} {g : Option LV → R (LV × H)} {s : Sem Next} (hx : ∀ y ∈ x.toArray, EvR m f a y) (hg : ∀ v, VO m v (x.map a.eval) → Fits P m h w s (g v)) : Fits P m h w s (eO f x g) := by
  intro e
  unfold Go.X.eO at e ⊢
  cases x with
  | none => exact hg none .none e
  | some y =>
    simp only at e ⊢
    cases h1 : Go.X.ev f y with
    | none => simp [h1] at e
    | some v =>
      simp only [h1] at e ⊢
      exact hg (some v) (.some (hx y (by simp) v h1)) e
theorem xBuiltin_run (hr : HR m h w) (hn : m h.next = none) {b : Builtin} {ts : Array TypeId} {args : List LV} {A : Array Value} (ha : VRs m args A.toList) {v : LV} {h' : H} (e : xBuiltin P b ts.toList args h = some (v, h')) (ty : TypeId) (cs : Array Bool) :
    OpDoes P m h w (builtin b ts ty cs A) (v, h') := by
  have one : ∀ {x : LV}, arg1 args = some x → ∃ X, A = #[X] ∧ VR m x X := by
    intro x hx
    unfold arg1 at hx
    split at hx
    · cases hx
      cases ha' : A.toList with
      | nil => rw [ha'] at ha; cases ha
      | cons X l =>
        rw [ha'] at ha
        cases ha with
        | cons h1 h2 => cases h2; exact ⟨X, by apply Array.ext'; simp [ha'], h1⟩
    · cases hx
  have two : ∀ {x : LV × LV}, arg2 args = some x → ∃ X Y, A = #[X, Y] ∧ VR m x.1 X ∧ VR m x.2 Y := by
    intro x hx
    unfold arg2 at hx
    split at hx
    · cases hx
      cases ha' : A.toList with
      | nil => rw [ha'] at ha; cases ha
      | cons X l =>
        rw [ha'] at ha
        cases ha with
        | cons h1 h2 =>
          cases h2 with
          | cons h2 h3 => cases h3; exact ⟨_, _, by apply Array.ext'; simp [ha'], h1, h2⟩
    · cases hx
  have hd : ∀ {t : TypeId} {rest : List TypeId}, ts.toList = t :: rest → ts[0]? = some t := by
    intro t rest hts; rw [← Array.getElem?_toList, hts]; rfl
  have w1 : ∀ {x : Option LV} {v : LV} {h' : H}, with1 h x = some (v, h') → x = some v ∧ h' = h := by
    intro x v h' hx
    unfold with1 at hx
    cases x with
    | none => cases hx
    | some u => cases hx; exact ⟨rfl, rfl⟩
  cases b <;> simp only [xBuiltin] at e <;> (try (cases e; done))
  · unfold bAppend at e
    cases h2 : arg2 args with
    | none => simp [h2] at e
    | some xy =>
      simp only [h2] at e
      obtain ⟨X, Y, rfl, hx, hy⟩ := two h2
      exact .val (r := (v, h')) (xAppend_run hr hn hx hy e ty)
  · unfold bCap at e
    cases hts : ts.toList with
    | nil => simp [hts] at e
    | cons t rest =>
      simp only [hts] at e
      cases h1 : arg1 args with
      | none => simp [h1] at e
      | some x =>
        simp only [h1] at e
        obtain ⟨e1, rfl⟩ := w1 e
        obtain ⟨X, rfl, hx⟩ := one h1
        obtain ⟨V, r1, r2⟩ := xCap_run hx e1 ts (hd hts) ty w
        exact .val (r := (v, h')) (.of hr r1 r2)
  · unfold bCopy at e
    cases hts : ts.toList with
    | nil => simp [hts] at e
    | cons t rest =>
      simp only [hts] at e
      cases hT : tkOf P t <;> simp only [hT] at e <;> (try (cases e; done))
      cases h2 : arg2 args with
      | none => simp [h2] at e
      | some xy =>
        simp only [h2] at e
        obtain ⟨X, Y, rfl, hx, hy⟩ := two h2
        exact .val (r := (v, h')) (xCopy_run hr hT hx hy e ts (hd hts) ty)
  · unfold bLen at e
    cases hts : ts.toList with
    | nil => simp [hts] at e
    | cons t rest =>
      simp only [hts] at e
      cases h1 : arg1 args with
      | none => simp [h1] at e
      | some x =>
        simp only [h1] at e
        obtain ⟨e1, rfl⟩ := w1 e
        obtain ⟨X, rfl, hx⟩ := one h1
        obtain ⟨V, r1, r2⟩ := xLen_run (P := P) hr hx e1 ts (hd hts) ty
        exact .val (r := (v, h')) (.of hr r1 r2)
  · unfold bMax at e
    cases h2 : arg2 args with
    | none => simp [h2] at e
    | some xy =>
      simp only [h2] at e
      obtain ⟨e1, rfl⟩ := w1 e
      obtain ⟨X, Y, rfl, hx, hy⟩ := two h2
      obtain ⟨V, r1, r2⟩ := xMax_run (P := P) hx hy e1 ts ty w
      exact .val (r := (v, h')) (.of hr r1 r2)
  · unfold bMin at e
    cases h2 : arg2 args with
    | none => simp [h2] at e
    | some xy =>
      simp only [h2] at e
      obtain ⟨e1, rfl⟩ := w1 e
      obtain ⟨X, Y, rfl, hx, hy⟩ := two h2
      obtain ⟨V, r1, r2⟩ := xMin_run (P := P) hx hy e1 ts ty w
      exact .val (r := (v, h')) (.of hr r1 r2)
theorem Fits.no {s : Sem Next} : Fits P m h w s .no := fun e => absurd rfl e
theorem Fits.one {s : Sem Value} {v : LV} {h' : H} (hd : Does P m h w s v h') : Fits P m h w (do pure (.value (← s))) (.one (v, h')) := fun _ => ⟨(v, h'), rfl, .val hd⟩
theorem call_builtin_exec {ρ : Operand → Value} {c : Call} {b : Builtin} {dst : Option Tmp} {ty : TypeId} {pos : String} {after : Array Edge} {guard : Option (Nat × Bool)} (hc : c.callee = .builtin b) (w : World) :
    (execOp ρ { dst := dst, op := .call c, type := ty, pos := pos, after := after, guard := guard }).run P w = (builtin b c.argTypes ty (c.args.map fun x => match x with | .const _ => true | _ => false) (c.args.map ρ)).run P w := by
  simp only [execOp, resolve, hc, Sem.run_bind, Sem.run_pure, Result.andThen_ok, invoke]
  congr 2
theorem fits_move (hr : HR m h w) (ht : Tight m h) {f : Fr} {a : Act} {dst : Option Tmp} {ty : TypeId} {pos : String} {after : Array Edge} {guard : Option (Nat × Bool)} {x} (he : ∀ yy ∈ (Op.move x).operands, EvR m f a yy) :
    Fits P m h w (execOp a.eval { dst := dst, op := .move x, type := ty, pos := pos, after := after, guard := guard }) (xOp P { dst := dst, op := .move x, type := ty, pos := pos, after := after, guard := guard } f h) := by
    have hn := ht.none
    exact fun e => (Fits.rv (s := pure (a.eval x)) hr (fun v hv => ⟨_, rfl, he x (by simp [Op.operands]) v hv⟩)) e
theorem fits_assign (hr : HR m h w) (ht : Tight m h) {f : Fr} {a : Act} {dst : Option Tmp} {ty : TypeId} {pos : String} {after : Array Edge} {guard : Option (Nat × Bool)} {x} (he : ∀ yy ∈ (Op.assign x).operands, EvR m f a yy) :
    Fits P m h w (execOp a.eval { dst := dst, op := .assign x, type := ty, pos := pos, after := after, guard := guard }) (xOp P { dst := dst, op := .assign x, type := ty, pos := pos, after := after, guard := guard } f h) := by
    have hn := ht.none
    exact fun e => (Fits.rv (s := pure (a.eval x)) hr (fun v hv => ⟨_, rfl, he x (by simp [Op.operands]) v hv⟩)) e
theorem fits_pick (hr : HR m h w) (ht : Tight m h) {f : Fr} {a : Act} {dst : Option Tmp} {ty : TypeId} {pos : String} {after : Array Edge} {guard : Option (Nat × Bool)} {c x y} (he : ∀ yy ∈ (Op.pick c x y).operands, EvR m f a yy) :
    Fits P m h w (execOp a.eval { dst := dst, op := .pick c x y, type := ty, pos := pos, after := after, guard := guard }) (xOp P { dst := dst, op := .pick c x y, type := ty, pos := pos, after := after, guard := guard } f h) := by
    have hn := ht.none
    show Fits P m h w _ (oPick f h c x y)
    intro e
    unfold oPick at e ⊢
    have hc := he c (by simp [Op.operands])
    cases h1 : ev f c with
    | none => simp [h1] at e
    | some cv =>
      have hcv := hc cv h1
      cases cv with
      | bool t =>
        simp only [h1] at e ⊢
        have hcb : a.eval c = .bool t := by generalize hq : a.eval c = q at hcv; cases hcv; rfl
        have : Fits P m h w (do pure (.value (← (pure (a.eval (if t then x else y)) : Sem Value)))) (rv h (ev f (bif t then x else y))) :=
          Fits.rv hr (fun v hv => ⟨_, rfl, by
            cases t with
            | true => exact he x (by simp [Op.operands]) v hv
            | false => exact he y (by simp [Op.operands]) v hv⟩)
        obtain ⟨r, r1, r2⟩ := this e
        refine ⟨r, r1, ?_⟩
        obtain ⟨nx, V, w', m', q1, q2⟩ := r2
        refine ⟨nx, V, w', m', ?_, q2⟩
        rw [← q1]
        simp only [execOp, hcb, asBool]
        cases t <;> rfl
      | _ => simp [h1] at e
theorem fits_alloc (hr : HR m h w) (ht : Tight m h) {f : Fr} {a : Act} {dst : Option Tmp} {ty : TypeId} {pos : String} {after : Array Edge} {guard : Option (Nat × Bool)} {t} (he : ∀ yy ∈ (Op.alloc t).operands, EvR m f a yy) :
    Fits P m h w (execOp a.eval { dst := dst, op := .alloc t, type := ty, pos := pos, after := after, guard := guard }) (xOp P { dst := dst, op := .alloc t, type := ty, pos := pos, after := after, guard := guard } f h) := by
    have hn := ht.none
    show Fits P m h w _ (oAlloc P h t)
    intro e
    unfold oAlloc at e ⊢
    cases hz : zeroV P t with
    | none => simp [hz] at e
    | some z => exact Fits.one (oAlloc_run hr hn hz) (by simp)
theorem fits_box (hr : HR m h w) (ht : Tight m h) {f : Fr} {a : Act} {dst : Option Tmp} {ty : TypeId} {pos : String} {after : Array Edge} {guard : Option (Nat × Bool)} {t x} (he : ∀ yy ∈ (Op.box t x).operands, EvR m f a yy) :
    Fits P m h w (execOp a.eval { dst := dst, op := .box t x, type := ty, pos := pos, after := after, guard := guard }) (xOp P { dst := dst, op := .box t x, type := ty, pos := pos, after := after, guard := guard } f h) := by
    have hn := ht.none
    show Fits P m h w _ (oBox f h x)
    exact Fits.e1 fun v hv => Fits.one (oBox_run hr hn (he x (by simp [Op.operands]) v hv))
theorem fits_build (hr : HR m h w) (ht : Tight m h) {f : Fr} {a : Act} {dst : Option Tmp} {ty : TypeId} {pos : String} {after : Array Edge} {guard : Option (Nat × Bool)} {t ps} (he : ∀ yy ∈ (Op.build t ps).operands, EvR m f a yy) :
    Fits P m h w (execOp a.eval { dst := dst, op := .build t ps, type := ty, pos := pos, after := after, guard := guard }) (xOp P { dst := dst, op := .build t ps, type := ty, pos := pos, after := after, guard := guard } f h) := by
    have hn := ht.none
    show Fits P m h w _ (oBuild P f h t ps)
    intro e
    unfold oBuild at e ⊢
    cases hp : evParts f ps.toList with
    | none => simp [hp] at e
    | some l =>
      simp only [hp] at e ⊢
      have hps := EvR.parts (m := m) (a := a) (fun x hx => he x (by simpa [Op.operands] using hx)) hp
      exact Fits.rv (s := Instr.build t _) hr (fun v hv => xBuild_run (by simpa using hps) hv w) e
theorem fits_buildSlice (hr : HR m h w) (ht : Tight m h) {f : Fr} {a : Act} {dst : Option Tmp} {ty : TypeId} {pos : String} {after : Array Edge} {guard : Option (Nat × Bool)} {t n ps} (he : ∀ yy ∈ (Op.buildSlice t n ps).operands, EvR m f a yy) :
    Fits P m h w (execOp a.eval { dst := dst, op := .buildSlice t n ps, type := ty, pos := pos, after := after, guard := guard }) (xOp P { dst := dst, op := .buildSlice t n ps, type := ty, pos := pos, after := after, guard := guard } f h) := by
    have hn := ht.none
    show Fits P m h w _ (oBuildSlice P f h t n ps)
    intro e
    unfold oBuildSlice at e ⊢
    cases hp : evParts f ps.toList with
    | none => simp [hp] at e
    | some l =>
      simp only [hp] at e ⊢
      have hps := EvR.parts (m := m) (a := a) (fun x hx => he x (by simpa [Op.operands] using hx)) hp
      exact Fits.opt (s := Instr.buildSlice t n _) (fun v h' hv => xBuildSlice_run hr hn (by simpa using hps) hv) e
theorem fits_insert (hr : HR m h w) (ht : Tight m h) {f : Fr} {a : Act} {dst : Option Tmp} {ty : TypeId} {pos : String} {after : Array Edge} {guard : Option (Nat × Bool)} {t x k v} (he : ∀ yy ∈ (Op.insert t x k v).operands, EvR m f a yy) :
    Fits P m h w (execOp a.eval { dst := dst, op := .insert t x k v, type := ty, pos := pos, after := after, guard := guard }) (xOp P { dst := dst, op := .insert t x k v, type := ty, pos := pos, after := after, guard := guard } f h) := by
    have hn := ht.none
    show Fits P m h w _ (oMapUpdate P f h t x k v)
    exact Fits.e1 fun x' hx => Fits.e1 fun k' hk => Fits.e1 fun v' hv => Fits.unit (s := Instr.mapUpdate t (a.eval x) (a.eval k) (a.eval v)) fun h' e' =>
      xMapUpdate_run hr (he x (by simp [Op.operands]) _ hx) (he k (by simp [Op.operands]) _ hk) (he v (by simp [Op.operands]) _ hv) e'
theorem fits_mapUpdate (hr : HR m h w) (ht : Tight m h) {f : Fr} {a : Act} {dst : Option Tmp} {ty : TypeId} {pos : String} {after : Array Edge} {guard : Option (Nat × Bool)} {t x k v} (he : ∀ yy ∈ (Op.mapUpdate t x k v).operands, EvR m f a yy) :
    Fits P m h w (execOp a.eval { dst := dst, op := .mapUpdate t x k v, type := ty, pos := pos, after := after, guard := guard }) (xOp P { dst := dst, op := .mapUpdate t x k v, type := ty, pos := pos, after := after, guard := guard } f h) := by
    have hn := ht.none
    show Fits P m h w _ (oMapUpdate P f h t x k v)
    exact Fits.e1 fun x' hx => Fits.e1 fun k' hk => Fits.e1 fun v' hv => Fits.unit (s := Instr.mapUpdate t (a.eval x) (a.eval k) (a.eval v)) fun h' e' =>
      xMapUpdate_run hr (he x (by simp [Op.operands]) _ hx) (he k (by simp [Op.operands]) _ hk) (he v (by simp [Op.operands]) _ hv) e'
theorem fits_load (hr : HR m h w) (ht : Tight m h) {f : Fr} {a : Act} {dst : Option Tmp} {ty : TypeId} {pos : String} {after : Array Edge} {guard : Option (Nat × Bool)} {t x} (he : ∀ yy ∈ (Op.load t x).operands, EvR m f a yy) :
    Fits P m h w (execOp a.eval { dst := dst, op := .load t x, type := ty, pos := pos, after := after, guard := guard }) (xOp P { dst := dst, op := .load t x, type := ty, pos := pos, after := after, guard := guard } f h) := by
    have hn := ht.none
    show Fits P m h w _ (oLoad P f h t x)
    exact Fits.e1 fun x' hx => Fits.rv (s := Instr.loadAt t (a.eval x)) hr fun v hv => xLoad_run hr (he x (by simp [Op.operands]) _ hx) hv
theorem fits_store (hr : HR m h w) (ht : Tight m h) {f : Fr} {a : Act} {dst : Option Tmp} {ty : TypeId} {pos : String} {after : Array Edge} {guard : Option (Nat × Bool)} {t x y} (he : ∀ yy ∈ (Op.store t x y).operands, EvR m f a yy) :
    Fits P m h w (execOp a.eval { dst := dst, op := .store t x y, type := ty, pos := pos, after := after, guard := guard }) (xOp P { dst := dst, op := .store t x y, type := ty, pos := pos, after := after, guard := guard } f h) := by
    have hn := ht.none
    show Fits P m h w _ (oStore P f h t x y)
    exact Fits.e1 fun x' hx => Fits.e1 fun y' hy => Fits.unit (s := Instr.storeAt t (a.eval x) (a.eval y)) fun h' e' =>
      xStore_run hr (he x (by simp [Op.operands]) _ hx) (he y (by simp [Op.operands]) _ hy) e'
theorem fits_nilCheck (hr : HR m h w) (ht : Tight m h) {f : Fr} {a : Act} {dst : Option Tmp} {ty : TypeId} {pos : String} {after : Array Edge} {guard : Option (Nat × Bool)} {x} (he : ∀ yy ∈ (Op.nilCheck x).operands, EvR m f a yy) :
    Fits P m h w (execOp a.eval { dst := dst, op := .nilCheck x, type := ty, pos := pos, after := after, guard := guard }) (xOp P { dst := dst, op := .nilCheck x, type := ty, pos := pos, after := after, guard := guard } f h) := by
    have hn := ht.none
    show Fits P m h w _ (e1 f x fun y => oNilCheck y h)
    refine Fits.e1 fun x' hx => ?_
    intro e
    have hv := he x (by simp [Op.operands]) _ hx
    have key : ∀ X : Value, VR m x' X → a.eval x = X → ∃ r, (oNilCheck x' h).has r ∧ OpDoes P m h w (execOp a.eval { dst := dst, op := .nilCheck x, type := ty, pos := pos, after := after, guard := guard }) r := by
      intro X hX hq
      unfold oNilCheck at e ⊢
      cases hX <;> simp only at e ⊢ <;> (try (exact absurd rfl e))
      · rename_i off hm
        exact ⟨_, rfl, .value (a.eval x), a.eval x, w, m, by simp only [execOp, hq]; rfl, .inl rfl, .refl hr, by rw [hq]; exact .ptr off hm⟩
      · rename_i h1 h2
        exact ⟨_, rfl, .value (a.eval x), a.eval x, w, m, by simp only [execOp, hq]; rfl, .inl rfl, .refl hr, by rw [hq]; exact .func h1 h2⟩
    exact key _ hv rfl
theorem fits_binOp (hr : HR m h w) (ht : Tight m h) {f : Fr} {a : Act} {dst : Option Tmp} {ty : TypeId} {pos : String} {after : Array Edge} {guard : Option (Nat × Bool)} {op t x y t'} (he : ∀ yy ∈ (Op.binOp op t x y t').operands, EvR m f a yy) :
    Fits P m h w (execOp a.eval { dst := dst, op := .binOp op t x y t', type := ty, pos := pos, after := after, guard := guard }) (xOp P { dst := dst, op := .binOp op t x y t', type := ty, pos := pos, after := after, guard := guard } f h) := by
    have hn := ht.none
    show Fits P m h w _ (oBin P f h op t x y)
    exact Fits.e1 fun x' hx => Fits.e1 fun y' hy => Fits.rv (s := do eqGuard op t x y (a.eval x) (a.eval y); binOp op t (a.eval x) (a.eval y)) hr fun v hv =>
      xBin_run (he x (by simp [Op.operands]) _ hx) (he y (by simp [Op.operands]) _ hy) hv x y w
theorem fits_unOp (hr : HR m h w) (ht : Tight m h) {f : Fr} {a : Act} {dst : Option Tmp} {ty : TypeId} {pos : String} {after : Array Edge} {guard : Option (Nat × Bool)} {op t x} (he : ∀ yy ∈ (Op.unOp op t x).operands, EvR m f a yy) :
    Fits P m h w (execOp a.eval { dst := dst, op := .unOp op t x, type := ty, pos := pos, after := after, guard := guard }) (xOp P { dst := dst, op := .unOp op t x, type := ty, pos := pos, after := after, guard := guard } f h) := by
    have hn := ht.none
    show Fits P m h w _ (oUn f h op x)
    exact Fits.e1 fun x' hx => Fits.rv (s := Op.unary op (a.eval x)) hr fun v hv => xUn_run (he x (by simp [Op.operands]) _ hx) hv
theorem fits_convert (hr : HR m h w) (ht : Tight m h) {f : Fr} {a : Act} {dst : Option Tmp} {ty : TypeId} {pos : String} {after : Array Edge} {guard : Option (Nat × Bool)} {s d x} (he : ∀ yy ∈ (Op.convert s d x).operands, EvR m f a yy) :
    Fits P m h w (execOp a.eval { dst := dst, op := .convert s d x, type := ty, pos := pos, after := after, guard := guard }) (xOp P { dst := dst, op := .convert s d x, type := ty, pos := pos, after := after, guard := guard } f h) := by
    have hn := ht.none
    show Fits P m h w _ (oConvert P f h s d x)
    exact Fits.e1 fun x' hx => Fits.opt (s := convert s d (a.eval x)) fun v h' hv => xConvert_run hr hn (he x (by simp [Op.operands]) _ hx) hv
theorem fits_makeFunc (hr : HR m h w) (ht : Tight m h) {f : Fr} {a : Act} {dst : Option Tmp} {ty : TypeId} {pos : String} {after : Array Edge} {guard : Option (Nat × Bool)} {fn x y} (he : ∀ yy ∈ (Op.makeFunc fn x y).operands, EvR m f a yy) :
    Fits P m h w (execOp a.eval { dst := dst, op := .makeFunc fn x y, type := ty, pos := pos, after := after, guard := guard }) (xOp P { dst := dst, op := .makeFunc fn x y, type := ty, pos := pos, after := after, guard := guard } f h) := by
    have hn := ht.none
    show Fits P m h w _ (oMakeFunc f h fn x y)
    intro e
    unfold oMakeFunc at e ⊢
    cases fn with
    | func g =>
      simp only at e ⊢
      cases h1 : evs f x.toList with
      | none => simp [h1] at e
      | some l1 =>
        cases h2 : evs f y.toList with
        | none => simp [h1, h2] at e
        | some l2 =>
          simp only [h1, h2] at e ⊢
          have a1 := EvR.list (m := m) (a := a) (fun z hz => he z (by simp [Op.operands]; exact .inl (by simpa using hz))) h1
          have a2 := EvR.list (m := m) (a := a) (fun z hz => he z (by simp [Op.operands]; exact .inr (by simpa using hz))) h2
          have b1 : VRs m l1 (x.map a.eval).toList := by simpa using a1
          have b2 : VRs m l2 (y.map a.eval).toList := by simpa using a2
          refine ⟨_, rfl, .value (.func (.func g) (x.map a.eval) (y.map a.eval)), _, w, m, rfl, .inl rfl, .refl hr, ?_⟩
          exact .func (F := (x.map a.eval).toList) (C := (y.map a.eval).toList) b1 b2
    | _ => exact absurd rfl e
theorem fits_makeMap (hr : HR m h w) (ht : Tight m h) {f : Fr} {a : Act} {dst : Option Tmp} {ty : TypeId} {pos : String} {after : Array Edge} {guard : Option (Nat × Bool)} {t r} (he : ∀ yy ∈ (Op.makeMap t r).operands, EvR m f a yy) :
    Fits P m h w (execOp a.eval { dst := dst, op := .makeMap t r, type := ty, pos := pos, after := after, guard := guard }) (xOp P { dst := dst, op := .makeMap t r, type := ty, pos := pos, after := after, guard := guard } f h) := by
    have hn := ht.none
    show Fits P m h w _ (oMakeMap P h t r)
    intro e
    unfold oMakeMap at e ⊢
    cases r with
    | none =>
      simp only at e ⊢
      cases hT : mapT P t with
      | none => simp [hT] at e
      | some q => exact Fits.one (makeMap_run (t := t) hr hn) (by simp)
    | some r => exact absurd rfl e
theorem fits_makeSlice (hr : HR m h w) (ht : Tight m h) {f : Fr} {a : Act} {dst : Option Tmp} {ty : TypeId} {pos : String} {after : Array Edge} {guard : Option (Nat × Bool)} {t l c} (he : ∀ yy ∈ (Op.makeSlice t l c).operands, EvR m f a yy) :
    Fits P m h w (execOp a.eval { dst := dst, op := .makeSlice t l c, type := ty, pos := pos, after := after, guard := guard }) (xOp P { dst := dst, op := .makeSlice t l c, type := ty, pos := pos, after := after, guard := guard } f h) := by
    have hn := ht.none
    show Fits P m h w _ (oMakeSlice P f h t l c)
    exact Fits.e1 fun x' hx => Fits.e1 fun y' hy => Fits.opt (s := Instr.makeSlice t (a.eval l) (a.eval c)) fun v h' hv => xMakeSlice_run hr hn (he l (by simp [Op.operands]) _ hx) (he c (by simp [Op.operands]) _ hy) hv
theorem fits_slice (hr : HR m h w) (ht : Tight m h) {f : Fr} {a : Act} {dst : Option Tmp} {ty : TypeId} {pos : String} {after : Array Edge} {guard : Option (Nat × Bool)} {t x lo hi mx} (he : ∀ yy ∈ (Op.slice t x lo hi mx).operands, EvR m f a yy) :
    Fits P m h w (execOp a.eval { dst := dst, op := .slice t x lo hi mx, type := ty, pos := pos, after := after, guard := guard }) (xOp P { dst := dst, op := .slice t x lo hi mx, type := ty, pos := pos, after := after, guard := guard } f h) := by
    have hn := ht.none
    show Fits P m h w _ (oSlice P f h t x lo hi mx)
    refine Fits.e1 fun x' hx => Fits.eO (a := a) (fun y hy => he y ?_) fun l hl => Fits.eO (a := a) (fun y hy => he y ?_) fun i hi' => Fits.eO (a := a) (fun y hy => he y ?_) fun mm hmm => ?_
    · simp at hy; simp [Op.operands, hy]
    · simp at hy; simp [Op.operands, hy]
    · simp at hy; simp [Op.operands, hy]
    · exact Fits.rv (s := Instr.sliceAt t (a.eval x) (lo.map a.eval) (hi.map a.eval) (mx.map a.eval)) hr fun v hv => xSlice_run (he x (by simp [Op.operands]) _ hx) hl hi' hmm hr hv
theorem fits_fieldAddr (hr : HR m h w) (ht : Tight m h) {f : Fr} {a : Act} {dst : Option Tmp} {ty : TypeId} {pos : String} {after : Array Edge} {guard : Option (Nat × Bool)} {t x i} (he : ∀ yy ∈ (Op.fieldAddr t x i).operands, EvR m f a yy) :
    Fits P m h w (execOp a.eval { dst := dst, op := .fieldAddr t x i, type := ty, pos := pos, after := after, guard := guard }) (xOp P { dst := dst, op := .fieldAddr t x i, type := ty, pos := pos, after := after, guard := guard } f h) := by
    have hn := ht.none
    show Fits P m h w _ (oFieldAddr P f h t x i)
    exact Fits.e1 fun x' hx => Fits.rv (s := Instr.fieldAt t (a.eval x) i) hr fun v hv => xFieldAddr_run (he x (by simp [Op.operands]) _ hx) hv
theorem fits_field (hr : HR m h w) (ht : Tight m h) {f : Fr} {a : Act} {dst : Option Tmp} {ty : TypeId} {pos : String} {after : Array Edge} {guard : Option (Nat × Bool)} {t x i} (he : ∀ yy ∈ (Op.field t x i).operands, EvR m f a yy) :
    Fits P m h w (execOp a.eval { dst := dst, op := .field t x i, type := ty, pos := pos, after := after, guard := guard }) (xOp P { dst := dst, op := .field t x i, type := ty, pos := pos, after := after, guard := guard } f h) := by
    have hn := ht.none
    show Fits P m h w _ (oField P f h t x i)
    exact Fits.e1 fun x' hx => Fits.rv (s := Instr.field t (a.eval x) i) hr fun v hv => xField_run (he x (by simp [Op.operands]) _ hx) hv
theorem fits_indexAddr (hr : HR m h w) (ht : Tight m h) {f : Fr} {a : Act} {dst : Option Tmp} {ty : TypeId} {pos : String} {after : Array Edge} {guard : Option (Nat × Bool)} {t x i} (he : ∀ yy ∈ (Op.indexAddr t x i).operands, EvR m f a yy) :
    Fits P m h w (execOp a.eval { dst := dst, op := .indexAddr t x i, type := ty, pos := pos, after := after, guard := guard }) (xOp P { dst := dst, op := .indexAddr t x i, type := ty, pos := pos, after := after, guard := guard } f h) := by
    have hn := ht.none
    show Fits P m h w _ (oIndexAddr P f h t x i)
    exact Fits.e1 fun x' hx => Fits.e1 fun y' hy => Fits.rv (s := Instr.indexAt t (a.eval x) (a.eval i)) hr fun v hv => xIndexAddr_run (he x (by simp [Op.operands]) _ hx) (he i (by simp [Op.operands]) _ hy) hv
theorem fits_index (hr : HR m h w) (ht : Tight m h) {f : Fr} {a : Act} {dst : Option Tmp} {ty : TypeId} {pos : String} {after : Array Edge} {guard : Option (Nat × Bool)} {t x i} (he : ∀ yy ∈ (Op.index t x i).operands, EvR m f a yy) :
    Fits P m h w (execOp a.eval { dst := dst, op := .index t x i, type := ty, pos := pos, after := after, guard := guard }) (xOp P { dst := dst, op := .index t x i, type := ty, pos := pos, after := after, guard := guard } f h) := by
    have hn := ht.none
    show Fits P m h w _ (oIndex P f h t x i)
    exact Fits.e1 fun x' hx => Fits.e1 fun y' hy => Fits.rv (s := Instr.index t (a.eval x) (a.eval i)) hr fun v hv => xIndex_run (he x (by simp [Op.operands]) _ hx) (he i (by simp [Op.operands]) _ hy) hv
theorem fits_lookup (hr : HR m h w) (ht : Tight m h) {f : Fr} {a : Act} {dst : Option Tmp} {ty : TypeId} {pos : String} {after : Array Edge} {guard : Option (Nat × Bool)} {t x k ok} (he : ∀ yy ∈ (Op.lookup t x k ok).operands, EvR m f a yy) :
    Fits P m h w (execOp a.eval { dst := dst, op := .lookup t x k ok, type := ty, pos := pos, after := after, guard := guard }) (xOp P { dst := dst, op := .lookup t x k ok, type := ty, pos := pos, after := after, guard := guard } f h) := by
    have hn := ht.none
    show Fits P m h w _ (oLookup P f h t x k ok)
    exact Fits.e1 fun x' hx => Fits.e1 fun y' hy => Fits.rv (s := Instr.lookup t (a.eval x) (a.eval k) ok) hr fun v hv => xLookup_run hr (he x (by simp [Op.operands]) _ hx) (he k (by simp [Op.operands]) _ hy) hv
theorem fits_range (hr : HR m h w) (ht : Tight m h) {f : Fr} {a : Act} {dst : Option Tmp} {ty : TypeId} {pos : String} {after : Array Edge} {guard : Option (Nat × Bool)} {t x} (he : ∀ yy ∈ (Op.range t x).operands, EvR m f a yy) :
    Fits P m h w (execOp a.eval { dst := dst, op := .range t x, type := ty, pos := pos, after := after, guard := guard }) (xOp P { dst := dst, op := .range t x, type := ty, pos := pos, after := after, guard := guard } f h) := by
    have hn := ht.none
    show Fits P m h w _ (oRange P f h t x)
    exact Fits.e1 fun x' hx => Fits.opt (s := Instr.range t (a.eval x)) fun v h' hv => range_run hr hn (he x (by simp [Op.operands]) _ hx) hv
theorem fits_next (hr : HR m h w) (ht : Tight m h) {f : Fr} {a : Act} {dst : Option Tmp} {ty : TypeId} {pos : String} {after : Array Edge} {guard : Option (Nat × Bool)} {it s} (he : ∀ yy ∈ (Op.next it s).operands, EvR m f a yy) :
    Fits P m h w (execOp a.eval { dst := dst, op := .next it s, type := ty, pos := pos, after := after, guard := guard }) (xOp P { dst := dst, op := .next it s, type := ty, pos := pos, after := after, guard := guard } f h) := by
    have hn := ht.none
    show Fits P m h w _ (oNext f h it s)
    refine Fits.e1 fun x' hx => fun e => ?_
    obtain ⟨r, r1, r2⟩ := xNext_run (P := P) hr (he it (by simp [Op.operands]) _ hx) (ty := ty) e
    exact ⟨r, r1, .val r2⟩
theorem fits_entry (hr : HR m h w) (ht : Tight m h) {f : Fr} {a : Act} {dst : Option Tmp} {ty : TypeId} {pos : String} {after : Array Edge} {guard : Option (Nat × Bool)} {it} (he : ∀ yy ∈ (Op.entry it).operands, EvR m f a yy) :
    Fits P m h w (execOp a.eval { dst := dst, op := .entry it, type := ty, pos := pos, after := after, guard := guard }) (xOp P { dst := dst, op := .entry it, type := ty, pos := pos, after := after, guard := guard } f h) := by
    have hn := ht.none
    show Fits P m h w _ (oEntry f h it)
    exact Fits.e1 fun x' hx => Fits.rv (s := Instr.entry (a.eval it)) hr fun v hv => xEntry_run hr (he it (by simp [Op.operands]) _ hx) hv
theorem fits_extract (hr : HR m h w) (ht : Tight m h) {f : Fr} {a : Act} {dst : Option Tmp} {ty : TypeId} {pos : String} {after : Array Edge} {guard : Option (Nat × Bool)} {x i} (he : ∀ yy ∈ (Op.extract x i).operands, EvR m f a yy) :
    Fits P m h w (execOp a.eval { dst := dst, op := .extract x i, type := ty, pos := pos, after := after, guard := guard }) (xOp P { dst := dst, op := .extract x i, type := ty, pos := pos, after := after, guard := guard } f h) := by
    have hn := ht.none
    show Fits P m h w _ (oExtract f h x i)
    exact Fits.e1 fun x' hx => Fits.rv (s := Instr.extract (a.eval x) i) hr fun v hv => xExtract_run (he x (by simp [Op.operands]) _ hx) hv
theorem fits_call (hr : HR m h w) (ht : Tight m h) {f : Fr} {a : Act} {dst : Option Tmp} {ty : TypeId} {pos : String} {after : Array Edge} {guard : Option (Nat × Bool)} {c} (he : ∀ yy ∈ (Op.call c).operands, EvR m f a yy) :
    Fits P m h w (execOp a.eval { dst := dst, op := .call c, type := ty, pos := pos, after := after, guard := guard }) (xOp P { dst := dst, op := .call c, type := ty, pos := pos, after := after, guard := guard } f h) := by
    have hn := ht.none
    show Fits P m h w _ (oCall P f h c)
    intro e
    unfold oCall at e ⊢
    cases hc : c.callee with
    | builtin b =>
      simp only [hc] at e ⊢
      unfold oBuiltin at e ⊢
      cases h1 : evs f c.args.toList with
      | none => simp [h1] at e
      | some l =>
        simp only [h1] at e ⊢
        obtain ⟨v, e1, e2⟩ := ofOpt_some e
        rw [e2]
        have ha := EvR.list (m := m) (a := a) (fun z hz => he z (by simp [Op.operands, Call.operands, hc]; simpa using hz)) h1
        have ha' : VRs m l (c.args.map a.eval).toList := by simpa using ha
        have hcs := call_builtin_exec (P := P) (ρ := a.eval) (dst := dst) (ty := ty) (pos := pos) (after := after) (guard := guard) hc w
        obtain ⟨nx, V, w', m', q1, q2⟩ := xBuiltin_run (P := P) hr hn ha' (v := v.1) (h' := v.2) e1 ty (c.args.map fun x => match x with | .const _ => true | _ => false)
        exact ⟨v, rfl, nx, V, w', m', hcs.trans q1, q2⟩
    | _ => simp [hc] at e
theorem xOp_fits (hr : HR m h w) (ht : Tight m h) {o : Oper} {f : Fr} {a : Act} (he : ∀ x ∈ o.op.operands, EvR m f a x) : Fits P m h w (execOp a.eval o) (xOp P o f h) := by
  obtain ⟨dst, op, ty, pos, after, guard⟩ := o
  cases op with
  | move x => exact fits_move hr ht he
  | assign x => exact fits_assign hr ht he
  | pick c x y => exact fits_pick hr ht he
  | alloc t => exact fits_alloc hr ht he
  | box t x => exact fits_box hr ht he
  | build t ps => exact fits_build hr ht he
  | buildSlice t n ps => exact fits_buildSlice hr ht he
  | insert t x k v => exact fits_insert hr ht he
  | mapUpdate t x k v => exact fits_mapUpdate hr ht he
  | load t x => exact fits_load hr ht he
  | store t x y => exact fits_store hr ht he
  | nilCheck x => exact fits_nilCheck hr ht he
  | binOp op t x y t' => exact fits_binOp hr ht he
  | unOp op t x => exact fits_unOp hr ht he
  | convert s d x => exact fits_convert hr ht he
  | makeFunc fn x y => exact fits_makeFunc hr ht he
  | makeMap t r => exact fits_makeMap hr ht he
  | makeSlice t l c => exact fits_makeSlice hr ht he
  | slice t x lo hi mx => exact fits_slice hr ht he
  | fieldAddr t x i => exact fits_fieldAddr hr ht he
  | field t x i => exact fits_field hr ht he
  | indexAddr t x i => exact fits_indexAddr hr ht he
  | index t x i => exact fits_index hr ht he
  | lookup t x k ok => exact fits_lookup hr ht he
  | range t x => exact fits_range hr ht he
  | next it s => exact fits_next hr ht he
  | entry it => exact fits_entry hr ht he
  | extract x i => exact fits_extract hr ht he
  | call c => exact fits_call hr ht he
  | _ => exact Fits.no
end Go.X

/-
  The rules for code: what an executor's answer says of a walk.
-/
namespace Go.X
variable {P : Program} {m : M} {h : H} {w : World}

/-! ### Several answers -/
theorem R.all_has {α β : Type} {f : α → R β} : ∀ {l : List α}, R.all f l ≠ .no → (∃ ys, R.all f l = .many ys) ∧ ∀ a ∈ l, f a ≠ .no ∧ ∀ b, (f a).has b → (R.all f l).has b := by
  intro l
  induction l with
  | nil => intro _; exact ⟨⟨[], rfl⟩, fun a ha => by cases ha⟩
  | cons x l ih =>
    intro e
    simp only [R.all] at e ⊢
    cases hx : f x with
    | no => simp [hx] at e
    | one b =>
      simp only [hx] at e ⊢
      cases hl : R.all f l with
      | no => simp [hl] at e
      | one c =>
        obtain ⟨⟨ys, hy⟩, _⟩ := ih (by rw [hl]; simp)
        rw [hl] at hy; cases hy
      | many cs =>
        have := ih (by rw [hl]; simp)
        refine ⟨⟨_, rfl⟩, fun a ha => ?_⟩
        rcases List.mem_cons.1 ha with rfl | ha
        · rw [hx]; exact ⟨by simp, fun q hq => by simp only [R.has] at hq ⊢; subst hq; exact List.mem_cons_self ..⟩
        · obtain ⟨h1, h2⟩ := this.2 a ha
          exact ⟨h1, fun q hq => by have := h2 q hq; rw [hl] at this; exact List.mem_cons_of_mem _ this⟩
    | many bs =>
      simp only [hx] at e ⊢
      cases hl : R.all f l with
      | no => simp [hl] at e
      | one c =>
        obtain ⟨⟨ys, hy⟩, _⟩ := ih (by rw [hl]; simp)
        rw [hl] at hy; cases hy
      | many cs =>
        have := ih (by rw [hl]; simp)
        refine ⟨⟨_, rfl⟩, fun a ha => ?_⟩
        rcases List.mem_cons.1 ha with rfl | ha
        · rw [hx]; exact ⟨by simp, fun q hq => List.mem_append_left _ hq⟩
        · obtain ⟨h1, h2⟩ := this.2 a ha
          exact ⟨h1, fun q hq => by have := h2 q hq; rw [hl] at this; exact List.mem_append_right _ this⟩
theorem R.bind_has {α β : Type} {x : R α} {f : α → R β} (e : R.bind x f ≠ .no) : x ≠ .no ∧ ∀ a, x.has a → f a ≠ .no ∧ ∀ b, (f a).has b → (R.bind x f).has b := by
  cases x with
  | no => exact absurd rfl e
  | one a => exact ⟨by simp, fun b hb => by cases hb; exact ⟨e, fun _ h => h⟩⟩
  | many l => exact ⟨by simp, fun a ha => (R.all_has e).2 a ha⟩

/-! ### Marks, ends -/
inductive MarksR (m : M) : List Nat → List Deferred → Prop
  | nil : MarksR m [] []
  | cons {i b d n : Nat} {l : List Nat} {L : List Deferred} (h : m i = some (b, d, n)) (t : MarksR m l L) : MarksR m (i :: l) ({ target := .collected b, args := #[] } :: L)
theorem MarksR.mono {m' : M} (hm : m.le m') {l : List Nat} {L : List Deferred} (h : MarksR m l L) : MarksR m' l L := by
  induction h with
  | nil => exact .nil
  | cons h _ ih => exact .cons (hm _ _ h) ih
def ExitIs : XE → Exit → Prop
  | .normal, .normal => True
  | .exit i, .exit j => i = j
  | .goto i, .goto j => i = j
  | .ret, .ret => True
  | _, _ => False
/-- What stands behind code: one of the answers. -/
def Post (X : R (XE × St)) (m : M) (h : H) (w : World) : Exit → Act → World → Prop := fun e a' w' =>
  ∃ r m', X.has r ∧ ExitIs r.1 e ∧ Step m h w m' r.2.h w' ∧ FrR m' r.2.f a'.tmps ∧ MarksR m' r.2.marks a'.defers
/-- Which frame: a function's, or a round's. -/
def RoF (m : M) (ro : Option Nat) (F : Fence) : Prop := match ro with
  | none => F = Fence.wide
  | some l => ∃ b d n, m l = some (b, d, n) ∧ F = Fence.wide.inRound b
theorem RoF.mono {m' : M} (hm : m.le m') {ro : Option Nat} {F : Fence} (h : RoF m ro F) : RoF m' ro F := by
  cases ro with
  | none => exact h
  | some l => obtain ⟨b, d, n, h1, h2⟩ := h; exact ⟨b, d, n, hm _ _ h1, h2⟩
theorem RoF.fn {ro : Option Nat} {F : Fence} (h : RoF m ro F) (f : FuncId) : F.fn f := by
  cases ro with
  | none => cases h; exact trivial
  | some l => obtain ⟨b, d, n, _, rfl⟩ := h; exact trivial
theorem RoF.depth {ro : Option Nat} {F : Fence} (h : RoF m ro F) : F.depth = none := by
  cases ro with
  | none => cases h; rfl
  | some l => obtain ⟨b, d, n, _, rfl⟩ := h; rfl
theorem RoF.inRound {ro : Option Nat} {F : Fence} (h : RoF m ro F) (b : Nat) : F.inRound b = Fence.wide.inRound b := by
  cases ro with
  | none => cases h; rfl
  | some l => obtain ⟨b', d, n, _, rfl⟩ := h; rfl
theorem RoF.calls {ro : Option Nat} {F : Fence} (h : RoF m ro F) {n : Nat} {k : FuncId} {A : Array Value} {w : World} {R : Ending → World → Prop} (hc : CallsIn Fence.wide n P k A w R) : CallsIn F n P k A w R := by
  cases ro with
  | none => cases h; exact hc
  | some l => obtain ⟨b', d, n, _, rfl⟩ := h; exact hc
/-- A state is told by an executor's. -/
structure SR (m : M) (s : St) (a : Act) (w : World) : Prop where
  hr : HR m s.h w
  ti : Tight m s.h
  fr : FrR m s.f a.tmps
  mr : MarksR m s.marks a.defers

/-! ### Rules that the kit lacks: a scope; a loop, a round at a time -/
theorem wpIn_scope {F : Fence} {n : Nat} {c : Code} {Q : Exit → Act → World → Prop} {a : Act} {w : World} (h : c.wpIn F n P (Exit.noGoto Q) a w) : (Code.scope c).wpIn F n P Q a w := by
  intro b k cs hro hb hr
  have s1 : step P (lone (b.atR a (.code (.scope c) :: k)) cs w) = .next (lone (b.atR a (.code c :: .inScope c :: k)) cs w) :=
    step_lone_go (by simp [stepG, stepG.exec, Frame.atR])
  have s2 : ∀ a w, step P (lone (b.atR a (.inScope c :: k)) cs w) = .next (lone (b.atR a k) cs w) := fun a w =>
    step_lone_go (by simp [stepG, stepG.exec, Frame.atR])
  have h0 : (lone (b.atR a (.code (.scope c) :: k)) cs w).fenced P F := fenced_calm hb hr rfl
  obtain ⟨e, a₁, w₁, hq, harr⟩ := h b (.inScope c :: k) cs hro hb hr
  have hx : ∀ id, exitTo id (.inScope c :: k) = exitTo id k := fun id => by simp [exitTo]
  cases e with
  | normal => exact ⟨.normal, a₁, w₁, hq, .head h0 s1 (StepsIn.trans harr (.one (fenced_calm hb hr rfl) (s2 _ _)))⟩
  | exit id => exact ⟨.exit id, a₁, w₁, hq, fun k' hk => .head h0 s1 (harr.1 k' (by rw [hx]; exact hk)),
      fun hr' hk => let ⟨k₁, h1, h2⟩ := harr.2 hr' (by rw [hx]; exact hk); ⟨k₁, h1, .head h0 s1 h2⟩⟩
  | goto l => exact hq.elim
  | ret => exact ⟨_, a₁, w₁, hq, .of_steps (.one h0 s1) harr⟩
  | panic ch => exact ⟨_, a₁, w₁, hq, .of_steps (.one h0 s1) harr⟩
  | outgrown => exact ⟨_, a₁, w₁, hq, .of_steps (.one h0 s1) harr⟩
/-- At a loop's round. -/
def LoopAt (F : Fence) (n : Nat) (P : Program) (c : Code) (Q : Exit → Act → World → Prop) (a : Act) (w : World) : Prop :=
  ∀ (b : Frame) (k : List Item) (cs : List Frame), b.roundOf = F.round → F.fn b.fn → F.room (cs.length + 1 + n) →
    ∃ e a' w', Q e a' w' ∧ ArrivesIn (Machine.fenced P F) P (lone (b.atR a (.code c :: .inLoop c :: k)) cs w) b k cs e a' w'
theorem LoopAt.mono {F : Fence} {n : Nat} {c : Code} {Q Q' : Exit → Act → World → Prop} {a : Act} {w : World} (h : LoopAt F n P c Q a w) (hq : ∀ e a w, Q e a w → Q' e a w) : LoopAt F n P c Q' a w :=
  fun b k cs hro hb hr => let ⟨e, a', w', q, r⟩ := h b k cs hro hb hr; ⟨e, a', w', hq _ _ _ q, r⟩
theorem LoopAt.wpIn {F : Fence} {n : Nat} {c : Code} {Q : Exit → Act → World → Prop} {a : Act} {w : World} (h : LoopAt F n P c Q a w) : (Code.loop c).wpIn F n P Q a w := by
  intro b k cs hro hb hr
  obtain ⟨e, a', w', hq, harr⟩ := h b k cs hro hb hr
  exact ⟨e, a', w', hq, .of_steps (.one (fenced_calm hb hr rfl) stepR_loop) harr⟩
theorem LoopAt.round {F : Fence} {n : Nat} {c : Code} {Q : Exit → Act → World → Prop} {a : Act} {w : World} (h : c.wpIn F n P (Exit.then (LoopAt F n P c Q) Q) a w) : LoopAt F n P c Q a w := by
  intro b k cs hro hb hr
  obtain ⟨e, a₁, w₁, hq, harr⟩ := h b (.inLoop c :: k) cs hro hb hr
  cases e with
  | normal =>
    obtain ⟨e₂, a₂, w₂, hq₂, harr₂⟩ := hq b k cs hro hb hr
    exact ⟨e₂, a₂, w₂, hq₂, .of_steps (StepsIn.trans harr (.one (fenced_calm hb hr rfl) stepR_inLoop)) harr₂⟩
  | exit id => exact ⟨_, a₁, w₁, hq, .pass (x := .inLoop c) rfl (fun _ _ => .inl (by simp)) harr⟩
  | goto l => exact ⟨_, a₁, w₁, hq, .pass (x := .inLoop c) rfl (fun _ _ => .inl (by simp)) harr⟩
  | ret => exact ⟨_, a₁, w₁, hq, .pass (x := .inLoop c) rfl (fun _ _ => .inl (by simp)) harr⟩
  | panic ch => exact ⟨_, a₁, w₁, hq, .pass (x := .inLoop c) rfl (fun _ _ => .inl (by simp)) harr⟩
  | outgrown => exact ⟨_, a₁, w₁, hq, .pass (x := .inLoop c) rfl (fun _ _ => .inl (by simp)) harr⟩

/-! ### What is promised of a level -/
/-- A call's answer. -/
def CallPost (X : R (LV × H)) (m : M) (h : H) (w : World) (V : Value) (w' : World) : Prop := ∃ r m', X.has r ∧ Step m h w m' r.2 w' ∧ VR m' r.1 V
def CallOK (P : Program) (call : FuncId → List LV → H → R (LV × H)) : Prop :=
  ∀ k args h, call k args h ≠ .no → ∀ (m : M) (w : World) (A : Array Value), HR m h w → Tight m h → VRs m args A.toList →
    ((callFunc k A).run P w = .ok (.enter k A) w ∧ CallsIn Fence.wide 0 P k A w fun e w' => ∃ V, e = .returned V ∧ CallPost (call k args h) m h w V w') ∨
    ((∃ s c, args = [.str s, .int .u8 c]) ∧ ∃ V w', (callFunc k A).run P w = .ok (.value V) w' ∧ CallPost (call k args h) m h w V w')
def ExecOK (P : Program) (exec : Option Nat → Code → St → R (XE × St)) : Prop :=
  ∀ ro c s, exec ro c s ≠ .no → ∀ (m : M) (w : World) (a : Act) (F : Fence), SR m s a w → RoF m ro F →
    c.wpIn F 0 P (Post (exec ro c s) m s.h w) a w ∧ ∀ body, c = .loop body → LoopAt F 0 P body (Post (exec ro c s) m s.h w) a w
end Go.X

/-
  Operations in code, with calls and yields.
-/
namespace Go.X
variable {P : Program} {m : M} {h : H} {w : World} {call : FuncId → List LV → H → R (LV × H)} {self : Option Nat → Code → St → R (XE × St)}

theorem FrR.set {f : Fr} {A : Array Value} (hf : FrR m f A) {d : Tmp} {v : LV} {V : Value} (hd : d < f.sz) (hv : VR m v V) : FrR m ⟨f.t.set d v, f.sz⟩ (A.setIfInBounds d V) where
  size := by simp [hf.size]
  get i := by
    simp only [Fr.get]
    rw [T.get_set]
    by_cases hi : i = d
    · subst hi
      simp only [if_pos, orUndef]
      have : i < A.size := by rw [hf.size]; exact hd
      simp [Array.getD, this]; exact hv
    · rw [if_neg hi]
      have := hf.get i
      simp only [Fr.get] at this
      have e : (A.setIfInBounds d V).getD i undef = A.getD i undef := by
        simp only [Array.getD_eq_getD_getElem?]
        rw [Array.getElem?_setIfInBounds_ne (Ne.symm hi)]
      rw [e]; exact this
theorem putO_some {f f' : Fr} {d : Tmp} {v : LV} (e : f.putO (some d) v = some f') : d < f.sz ∧ f' = ⟨f.t.set d v, f.sz⟩ := by
  unfold Fr.putO at e
  cases f with
  | mk t n =>
    simp only [nblt] at e
    by_cases hd : d < n
    · simp [hd] at e; exact ⟨hd, e.symm⟩
    · simp [hd] at e
theorem FrR.putO {f f' : Fr} {a : Act} (hf : FrR m f a.tmps) {dst : Option Tmp} {v : LV} {V : Value} (e : f.putO dst v = some f') (hv : VR m v V) : FrR m f' (a.put dst V).tmps := by
  cases dst with
  | none => simp [Fr.putO] at e; subst e; exact hf
  | some d =>
    obtain ⟨hd, rfl⟩ := putO_some e
    exact hf.set hd hv
theorem put_defers (a : Act) (dst : Option Tmp) (V : Value) : (a.put dst V).defers = a.defers := by cases dst <;> rfl
theorem setParams_run : ∀ {ps : List Tmp} {vs : List LV} {f f' : Fr} {T : Array Value} {VS : List Value}, setParams f ps vs = some f' → VRs m vs VS → FrR m f T →
    ps.length = VS.length ∧ FrR m f' ((ps.zip VS).foldl (fun tmps (x : Tmp × Value) => tmps.setIfInBounds x.1 x.2) T) := by
  intro ps
  induction ps with
  | nil =>
    intro vs f f' T VS e hv hf
    cases vs with
    | nil => cases hv; simp [setParams] at e; subst e; exact ⟨rfl, hf⟩
    | cons v vs => simp [setParams] at e
  | cons p ps ih =>
    intro vs f f' T VS e hv hf
    cases vs with
    | nil => simp [setParams] at e
    | cons v vs =>
      cases hv with
      | cons h1 h2 =>
        simp only [setParams] at e
        cases hp : f.putO (some p) v with
        | none => simp [hp] at e
        | some f1 =>
          simp only [hp] at e
          obtain ⟨hd, rfl⟩ := putO_some hp
          obtain ⟨a1, a2⟩ := ih e h2 (hf.set hd h1)
          exact ⟨by simp [a1], a2⟩
theorem jump_exit {e : XE} {j : Option Code} (he : jumpOf e = some j) : (e = .normal ∧ j = none) ∨ (e = .ret ∧ j = some .ret) ∨ ∃ i, e = .exit i ∧ j = some (.exit i) := by
  cases e <;> simp [jumpOf] at he
  · exact .inl ⟨rfl, he.symm⟩
  · exact .inr (.inr ⟨_, rfl, he.symm⟩)
  · exact .inr (.inl ⟨rfl, he.symm⟩)
theorem HR.loop (hr : HR m h w) {l b d n : Nat} {r : Loop} {t : T LV} {sz : Nat} (hm : m l = some (b, d, n)) (hg : h.get l = some (.loop r t sz)) :
    ∃ L : Loop, w.heap[b]? = some (.loop L) ∧ L.state = r.state ∧ L.pending = r.pending ∧ L.params = r.params ∧ L.assign = r.assign ∧ L.body = r.body ∧ FrR m ⟨t, sz⟩ L.tmps := hr.at hm hg
theorem Step.loop (hr : HR m h w) {l b d n : Nat} {r r' : Loop} {t : T LV} {sz : Nat} {L' : Loop} (hm : m l = some (b, d, n)) (hg : h.get l = some (.loop r t sz))
    (hf : FrR m ⟨t, sz⟩ L'.tmps) (e1 : L'.state = r'.state) (e2 : L'.pending = r'.pending) (e3 : L'.params = r'.params) (e4 : L'.assign = r'.assign) (e5 : L'.body = r'.body) :
    Step m h w m (h.put l (.loop r' t sz)) (w.putObj b (.loop L')) :=
  put_obj hr (w1 := w) (.loop r' t sz) (.loop L') hm hg (by simp) rfl rfl rfl rfl fun w' hw' => ⟨L', hw', e1, e2, e3, e4, e5, hf⟩
theorem yield_ok (hs : ExecOK P self) {l b d n : Nat} {args : List LV} (e : xYield self l args h ≠ .no) (hm : m l = some (b, d, n)) (hr : HR m h w) (ht : Tight m h) {A : Array Value} (ha : VRs m args A.toList) {ro : Option Nat} {F : Fence} (hro : RoF m ro F) :
    ∃ fn tmps assign body, (Instr.yield b A).run P w = .ok (.round b fn tmps assign body) w ∧ RoundIn F 0 P b fn tmps assign body w fun e w' => ∃ V, e = .returned V ∧ CallPost (xYield self l args h) m h w V w' := by
  unfold xYield at e
  cases hg : h.get l with
  | none => simp [hg] at e
  | some o =>
    cases o <;> simp only [hg] at e <;> (try (exact absurd rfl e))
    rename_i r t sz
    obtain ⟨L, l1, l2, l3, l4, l5, l6, l7⟩ := hr.loop hm hg
    cases hp : setParams ⟨t, sz⟩ r.params.toList args with
    | none => simp [hp] at e
    | some f =>
      simp only [hp] at e
      obtain ⟨p1, p2⟩ := setParams_run hp ha l7
      have hsz : A.size = L.params.size := by rw [l4]; simpa using p1.symm
      refine ⟨L.fn, _, L.assign, L.body, run_yield l1 hsz, ?_⟩
      have hX : xYield self l args h = R.bind (self (some l) r.assign ⟨f, h, []⟩) (yMid self l r.body) := by simp only [xYield, hg, hp]
      rw [hX]
      obtain ⟨b1, b2⟩ := R.bind_has e
      refine roundIn_of_wpIn (hro.fn _) ?_
      rw [l5, l6, hro.inRound]
      have hfold : ((L.params.zip A).foldl (fun tmps (x : Tmp × Value) => tmps.setIfInBounds x.1 x.2) L.tmps) = ((r.params.toList.zip A.toList).foldl (fun tmps (x : Tmp × Value) => tmps.setIfInBounds x.1 x.2) L.tmps) := by
        rw [l4, ← Array.foldl_toList]; simp
      have sr0 : SR m ⟨f, h, []⟩ { tmps := ((L.params.zip A).foldl (fun tmps (x : Tmp × Value) => tmps.setIfInBounds x.1 x.2) L.tmps), defers := [] } w :=
        ⟨hr, ht, by rw [hfold]; exact p2, .nil⟩
      have hro2 : RoF m (some l) (Fence.wide.inRound b) := ⟨b, d, n, hm, rfl⟩
      refine wpIn_mono (hs _ _ _ b1 m w _ _ sr0 hro2).1 fun ex a1 w1 ⟨q, m1, q1, q2, q3, q4, q5⟩ => ?_
      obtain ⟨c1, c2⟩ := b2 q q1
      unfold yMid at c1
      cases hq1 : q.1 with
      | normal =>
        rw [hq1] at q2
        cases ex <;> simp only [ExitIs] at q2
        simp only [hq1] at c1
        cases hmk : q.2.marks with
        | cons _ _ => simp [hmk] at c1
        | nil =>
          simp only [hmk] at c1
          cases hg1 : q.2.h.get l with
          | none => simp [hg1] at c1
          | some o1 =>
            cases o1 <;> simp only [hg1] at c1 <;> (try (exact absurd rfl c1))
            rename_i r1 t1 sz1
            have hm1 := q3.le _ _ hm
            obtain ⟨L1, k1, k2, k3, k4, k5, k6, k7⟩ := q3.hr.loop hm1 hg1
            cases hst : r1.state <;> simp only [hst] at c1 <;> (try (exact absurd rfl c1))
            have hbr := run_beginRound (P := P) k1 (k2.trans hst)
            refine ⟨_, hbr, ?_⟩
            have s1 : Step m1 q.2.h w1 m1 (q.2.h.put l (.loop { r1 with state := .busy } t1 sz1)) (w1.putObj b (.loop { L1 with state := .busy })) :=
              Step.loop q3.hr hm1 hg1 (L' := { L1 with state := .busy }) k7 rfl k3 k4 k5 k6
            have s01 := q3.trans s1
            rw [hmk] at q5
            have sr1 : SR m1 ⟨q.2.f, q.2.h.put l (.loop { r1 with state := .busy } t1 sz1), []⟩ a1 (w1.putObj b (.loop { L1 with state := .busy })) := ⟨s1.hr, s01.tight ht, q4, q5⟩
            obtain ⟨d1, d2⟩ := R.bind_has c1
            refine wpIn_mono (hs _ _ _ d1 m1 _ _ _ sr1 (hro2.mono q3.le)).1 fun ex2 a2 w2 ⟨z, m2, z1, z2, z3, z4, z5⟩ => ?_
            obtain ⟨g1, g2⟩ := d2 z z1
            unfold yEnd at g1
            cases hj : jumpOf z.1 with
            | none => simp [hj] at g1
            | some j =>
              simp only [hj] at g1
              cases hmk2 : z.2.marks with
              | cons _ _ => simp [hmk2] at g1
              | nil =>
                simp only [hmk2] at g1
                cases hg2 : z.2.h.get l with
                | none => simp [hg2] at g1
                | some o2 =>
                  cases o2 <;> simp only [hg2] at g1 <;> (try (exact absurd rfl g1))
                  rename_i r2 t2 sz2
                  have hm2 := z3.le _ _ hm1
                  obtain ⟨L2, y1, y2, y3, y4, y5, y6, y7⟩ := z3.hr.loop hm2 hg2
                  have hend := run_endRound (P := P) j y1
                  have s2 : Step m2 z.2.h w2 m2 (z.2.h.put l (.loop { r2 with state := if j.isNone then .ready else .done, pending := j } t2 sz2)) (w2.putObj b (.loop { L2 with state := if j.isNone then .ready else .done, pending := j })) :=
                    Step.loop z3.hr hm2 hg2 (L' := { L2 with state := if j.isNone then .ready else .done, pending := j }) y7 rfl rfl y4 y5 y6
                  have hyE : yEnd l z = .one (.bool j.isNone, z.2.h.put l (.loop { r2 with state := if j.isNone then .ready else .done, pending := j } t2 sz2)) := by
                    simp only [yEnd, hj, hmk2, hg2]
                  have fin : ∃ V, Ending.returned (.bool j.isNone) = .returned V ∧ CallPost (R.bind (self (some l) r.assign ⟨f, h, []⟩) (yMid self l r.body)) m h w V (w2.putObj b (.loop { L2 with state := if j.isNone then .ready else .done, pending := j })) := by
                    refine ⟨_, rfl, (.bool j.isNone, z.2.h.put l (.loop { r2 with state := if j.isNone then .ready else .done, pending := j } t2 sz2)), m2, ?_, (s01.trans z3).trans s2, .bool _⟩
                    apply c2
                    have : yMid self l r.body q = R.bind (self (some l) r.body ⟨q.2.f, q.2.h.put l (.loop { r1 with state := .busy } t1 sz1), []⟩) (yEnd l) := by
                      simp only [yMid, hq1, hmk, hg1, hst]
                    rw [this]
                    apply g2
                    rw [hyE]; rfl
                  rcases jump_exit hj with ⟨h1, rfl⟩ | ⟨h1, rfl⟩ | ⟨i, h1, rfl⟩
                  · rw [h1] at z2
                    cases ex2 <;> simp only [ExitIs] at z2
                    exact ⟨_, _, hend, fin⟩
                  · rw [h1] at z2
                    cases ex2 <;> simp only [ExitIs] at z2
                    exact ⟨_, _, hend, fin⟩
                  · rw [h1] at z2
                    cases ex2 <;> simp only [ExitIs] at z2
                    subst z2
                    exact ⟨_, _, hend, fin⟩
      | _ => simp [hq1] at c1

/-! ### An operation in code -/
theorem not_defer {o : Oper} {f : Fr} (e : xOp P o f h ≠ .no) (c : Call) : o.op ≠ .defer c := by
  obtain ⟨dst, op, ty, pos, after, guard⟩ := o
  rintro hq
  simp only at hq
  subst hq
  exact e rfl
theorem plain_ok {o : Oper} {f : Fr} (e : xOp P o f h ≠ .no) {a : Act} (hr : HR m h w) (ht : Tight m h) (he : ∀ x ∈ o.op.operands, EvR m f a x) {ro : Option Nat} {F : Fence} (hro : RoF m ro F) {K : Act → World → Prop} {Q : Exit → Act → World → Prop}
    (hK : ∀ r m' w' V, (xOp P o f h).has r → Step m h w m' r.2 w' → VR m' r.1 V → K (a.put o.dst V) w') : o.wpIn F 0 P a w K Q := by
  refine ⟨fun f _ => hro.fn f, ?_⟩
  rw [Oper.semAt_eq _ _ _ (not_defer e)]
  obtain ⟨r, hr1, nx, V, w', m', q1, q2, q3, q4⟩ := xOp_fits hr ht he e
  rw [q1]
  rcases q2 with rfl | ⟨rfl, rfl⟩
  · exact hK r m' w' V hr1 q3 q4
  · exact hK r m' w' undef hr1 q3 q4
theorem oper_ok (hc : CallOK P call) (hs : ExecOK P self) {o : Oper} {f : Fr} (e : xOper P call self o f h ≠ .no) {a : Act} (hr : HR m h w) (ht : Tight m h) (he : ∀ x ∈ o.op.operands, EvR m f a x) {ro : Option Nat} {F : Fence} (hro : RoF m ro F) {K : Act → World → Prop} {Q : Exit → Act → World → Prop}
    (hK : ∀ r m' w' V, (xOper P call self o f h).has r → Step m h w m' r.2 w' → VR m' r.1 V → K (a.put o.dst V) w') : o.wpIn F 0 P a w K Q := by
  have hd : F.depth.isSome = true → 1 ≤ 0 := by rw [hro.depth]; intro x; cases x
  obtain ⟨dst, op, ty, pos, after, guard⟩ := o
  cases op with
  | call c =>
    cases hcal : c.callee with
    | value g =>
      have hX : xOper P call self { dst := dst, op := .call c, type := ty, pos := pos, after := after, guard := guard } f h = (match ev f g, evs f c.args.toList with
        | some gv, some as => xCallee call self gv as h
        | _, _ => .no) := by simp only [xOper, hcal]; rfl
      rw [hX] at e hK
      cases hg : ev f g with
      | none => simp [hg] at e
      | some gv =>
        cases ha : evs f c.args.toList with
        | none => simp [hg, ha] at e
        | some as =>
          simp only [hg, ha] at e hK
          have hgv := he g (by simp [Op.operands, Call.operands, hcal]) gv hg
          have has := EvR.list (m := m) (a := a) (fun z hz => he z (by simp [Op.operands, Call.operands, hcal]; exact .inr (by simpa using hz))) ha
          have has' : VRs m as (c.args.map a.eval).toList := by simpa using has
          refine ⟨fun f _ => hro.fn f, ?_⟩
          rw [Oper.semAt_eq _ _ _ (by intro c' hc'; cases hc')]
          have hex : ∀ fn F' C', a.eval g = .func fn F' C' → execOp a.eval { dst := dst, op := .call c, type := ty, pos := pos, after := after, guard := guard } = invoke (.fn fn C') (F' ++ c.args.map a.eval) := by
            intro fn F' C' hq
            simp only [execOp, resolve, hcal, hq, Deferred.ofValue]
            rfl
          unfold xCallee at e hK
          cases gv with
          | func k first caps =>
            simp only at e hK
            obtain ⟨F', C', hq, h1, h2⟩ : ∃ F' C', a.eval g = .func (.func k) ⟨F'⟩ ⟨C'⟩ ∧ VRs m first F' ∧ VRs m caps C' := by
              generalize hq : a.eval g = q at hgv
              cases hgv with
              | func h1 h2 => exact ⟨_, _, rfl, h1, h2⟩
            rw [hex _ _ _ hq]
            have hargs : VRs m (first ++ (as ++ caps)) (((⟨F'⟩ : Array Value) ++ c.args.map a.eval) ++ ⟨C'⟩).toList := by
              have := h1.append (has'.append h2)
              simpa using this
            show Oper.uponIn F 0 P _ a K Q ((callFunc k (((⟨F'⟩ : Array Value) ++ c.args.map a.eval) ++ ⟨C'⟩)).run P w)
            rcases hc k _ h e m w _ hr ht hargs with ⟨c1, c2⟩ | ⟨_, V, w', c1, r, m', c2, c3, c4⟩
            · rw [c1, Oper.uponIn_enter]
              refine ⟨hd, (hro.calls c2).mono ?_⟩
              rintro ex w' ⟨V, rfl, r, m', c2, c3, c4⟩
              exact hK r m' w' V c2 c3 c4
            · rw [c1, Oper.uponIn_value]
              exact hK r m' w' V c2 c3 c4
          | yield l =>
            simp only at e hK
            obtain ⟨b, d, n, hq, hm⟩ : ∃ b d n, a.eval g = .func (.yield b) #[] #[] ∧ m l = some (b, d, n) := by
              generalize hq : a.eval g = q at hgv
              cases hgv with
              | yield hm => exact ⟨_, _, _, rfl, hm⟩
            rw [hex _ _ _ hq]
            obtain ⟨fn, tmps, assign, body, y1, y2⟩ := yield_ok (P := P) hs e hm hr ht has' hro
            show Oper.uponIn F 0 P _ a K Q ((Instr.yield b (#[] ++ c.args.map a.eval)).run P w)
            rw [Array.empty_append, y1, Oper.uponIn_round]
            refine ⟨hd, y2.mono ?_⟩
            rintro ex w' ⟨V, rfl, r, m', c2, c3, c4⟩
            exact hK r m' w' V c2 c3 c4
          | _ => exact absurd rfl e
    | builtin b =>
      have hX : xOper P call self { dst := dst, op := .call c, type := ty, pos := pos, after := after, guard := guard } f h = xOp P { dst := dst, op := .call c, type := ty, pos := pos, after := after, guard := guard } f h := by simp only [xOper, hcal]
      rw [hX] at e hK
      exact plain_ok e hr ht he hro hK
    | invoke r name =>
      have hX : xOper P call self { dst := dst, op := .call c, type := ty, pos := pos, after := after, guard := guard } f h = xOp P { dst := dst, op := .call c, type := ty, pos := pos, after := after, guard := guard } f h := by simp only [xOper, hcal]
      rw [hX] at e hK
      exact plain_ok e hr ht he hro hK
  | _ =>
    refine plain_ok (f := f) (h := h) ?_ hr ht he hro ?_
    · exact e
    · exact hK
end Go.X

/-
  Regions in the order of the text.
-/
namespace Go.X
variable {P : Program} {m : M} {h : H} {w : World} {call : FuncId → List LV → H → R (LV × H)} {self : Option Nat → Code → St → R (XE × St)}

theorem guard_ok {ops : Array Oper} {f : Fr} {a : Act} {o : Oper} (hg : ∀ j want q d, o.guard = some (j, want) → ops[j]? = some q → q.dst = some d → VR m (f.get d) (a.tmps.getD d undef)) :
    guardOk ops.toList f o = Region.wanted o (yielded ops a.tmps) := by
  unfold guardOk Region.wanted
  cases ho : o.guard with
  | none => rfl
  | some jw =>
    obtain ⟨j, want⟩ := jw
    simp only [Array.getElem?_toList]
    unfold yielded
    cases hq : ops[j]? with
    | none => rfl
    | some q =>
      simp only [Option.bind_some]
      cases hd : q.dst with
      | none => rfl
      | some d =>
        have hv := hg j want q d ho hq hd
        simp only [Option.bind_some]
        simp only [Fr.get] at hv
        cases hx : f.t.get d with
        | none =>
          rw [hx] at hv
          simp only [orUndef, undefL] at hv
          rw [Array.getD_eq_getD_getElem?] at hv
          cases ht : a.tmps[d]? with
          | none => rfl
          | some V =>
            rw [ht] at hv
            simp only [Option.getD_some] at hv
            cases hv; rfl
        | some v =>
          rw [hx] at hv
          simp only [orUndef] at hv
          rw [Array.getD_eq_getD_getElem?] at hv
          cases ht : a.tmps[d]? with
          | none =>
            rw [ht] at hv
            simp only [Option.getD_none, undef] at hv
            cases hv; rfl
          | some V =>
            rw [ht] at hv
            simp only [Option.getD_some] at hv
            cases hv <;> first | rfl | (simp [BEq.beq])
theorem put_undef {f f' : Fr} {a : Act} (hf : FrR m f a.tmps) {dst : Option Tmp} (e : f.putO dst undefL = some f') : FrR m f' (a.put dst undef).tmps := hf.putO e undefL_VR
theorem ops_ok (hc : CallOK P call) (hs : ExecOK P self) {ops : Array Oper} {ro : Option Nat} {F : Fence} {Q : Exit → Act → World → Prop} : ∀ (rest : List Oper) (i : Nat) (m : M) (f : Fr) (h : H) (w : World) (a : Act), ops.toList.drop i = rest → xOps P call self ops.toList rest f h ≠ .no →
    HR m h w → Tight m h → FrR m f a.tmps → RoF m ro F →
    (∀ r m' w' a', (xOps P call self ops.toList rest f h).has r → Step m h w m' r.2 w' → FrR m' r.1 a'.tmps → a'.defers = a.defers → Q .normal a' w') → wpOpsIn F 0 P ops Q (List.range' i rest.length) a w := by
  intro rest
  induction rest with
  | nil =>
    intro i m f h w a _ _ hr ht hf hro hQ
    exact hQ (f, h) m w a rfl (.refl hr) hf rfl
  | cons o rest ih =>
    intro i m f h w a hdrop e hr ht hf hro hQ
    have hoi : ops[i]? = some o := by
      have : (ops.toList.drop i)[0]? = some o := by rw [hdrop]; rfl
      rw [List.getElem?_drop] at this
      simpa using this
    have hdrop' : ops.toList.drop (i + 1) = rest := by
      rw [← List.drop_drop, hdrop]; rfl
    simp only [List.length_cons, List.range'_succ, wpOpsIn, hoi]
    simp only [xOps, opsStep] at e hQ
    have hgu : guardOk ops.toList f o = Region.wanted o (yielded ops a.tmps) := guard_ok fun j want q d _ _ _ => hf.get d
    rw [hgu] at e hQ
    cases hw : Region.wanted o (yielded ops a.tmps) with
    | true =>
      simp only [hw, cond_true] at e hQ
      simp only [if_true]
      obtain ⟨b1, b2⟩ := R.bind_has e
      refine oper_ok hc hs b1 hr ht (fun x _ => hf.ev x) hro fun r m1 w1 V hr1 hst hv => ?_
      obtain ⟨c1, c2⟩ := b2 r hr1
      cases hp : f.putO o.dst r.1 with
      | none => simp [hp] at c1
      | some f1 =>
        simp only [hp] at c1 c2
        refine ih (i + 1) m1 f1 r.2 w1 (a.put o.dst V) hdrop' c1 hst.hr (hst.tight ht) ((hf.mono hst.le).putO hp hv) (hro.mono hst.le) ?_
        intro q m2 w2 a2 q1 q2 q3 q4
        exact hQ q m2 w2 a2 (c2 q q1) (hst.trans q2) q3 (q4.trans (put_defers _ _ _))
    | false =>
      simp only [hw, cond_false] at e hQ
      simp only [Bool.false_eq_true, if_false]
      refine ⟨fun f _ => hro.fn f, ?_⟩
      cases hp : f.putO o.dst undefL with
      | none => simp [hp] at e
      | some f1 =>
        simp only [hp] at e hQ
        refine ih (i + 1) m f1 h w (a.put o.dst undef) hdrop' e hr ht (hf.putO hp undefL_VR) hro ?_
        intro q m2 w2 a2 q1 q2 q3 q4
        exact hQ q m2 w2 a2 q1 q2 q3 (q4.trans (put_defers _ _ _))
end Go.X

/-
  Code, a level; calls, a level.
-/
namespace Go.X
variable {P : Program} {m : M} {h : H} {w : World} {call : FuncId → List LV → H → R (LV × H)} {self : Option Nat → Code → St → R (XE × St)}

/-- What is proved of regions that draw their order. -/
def DrawOK (P : Program) (call : FuncId → List LV → H → R (LV × H)) (self : Option Nat → Code → St → R (XE × St)) : Prop :=
  ∀ (ops : Array Oper) (ro : Option Nat) (F : Fence) (Q : Exit → Act → World → Prop) (m : M) (f : Fr) (h : H) (w : World) (a : Act), tmpsOk ops (Region.before ops) = true → xDraw P call self ops.toList (Region.before ops) (Nat.succ ops.size) (bars ops) f h ≠ .no →
    HR m h w → Tight m h → FrR m f a.tmps → RoF m ro F →
    (∀ r m' w' a', (xDraw P call self ops.toList (Region.before ops) (Nat.succ ops.size) (bars ops) f h).has r → Step m h w m' r.2 w' → FrR m' r.1 a'.tmps → a'.defers = a.defers → Q .normal a' w') → wpAnyIn F 0 P .any ops Q ops.size (Array.replicate ops.size false) a w
theorem Post.exit {X : R (XE × St)} {s : St} {a : Act} (hs : SR m s a w) {x : XE} {e : Exit} (hx : X.has (x, s)) (he : ExitIs x e) : Post X m s.h w e a w := ⟨(x, s), m, hx, he, .refl hs.hr, hs.fr, hs.mr⟩
theorem region_ok (hm : P.follows .mixedOrders = true) (hd : DrawOK P call self) (hc : CallOK P call) (hs : ExecOK P self) {id : Nat} {ops : Array Oper} {draw : Bool} {s : St} (e : xRegion P call self ops draw s ≠ .no) {a : Act} (sr : SR m s a w) {ro : Option Nat} {F : Fence} (hro : RoF m ro F) :
    (Code.region id ops draw).wpIn F 0 P (Post (xRegion P call self ops draw s) m s.h w) a w := by
  unfold xRegion at e ⊢
  obtain ⟨b1, b2⟩ := R.bind_has e
  have done : ∀ {X : R (Fr × H)}, (∀ a, X.has a → (R.one (XE.normal, (⟨a.1, a.2, s.marks⟩ : St)) : R (XE × St)) ≠ .no ∧ ∀ b, (R.one (XE.normal, (⟨a.1, a.2, s.marks⟩ : St)) : R (XE × St)).has b → (R.bind X fun r => R.one (XE.normal, (⟨r.1, r.2, s.marks⟩ : St))).has b) →
      ∀ r m' w0 w' a', X.has r → w0.heap = w.heap → w0.os = w.os → w0.tape = w.tape → w0.output = w.output → Step m s.h w0 m' r.2 w' → FrR m' r.1 a'.tmps → a'.defers = a.defers → Post (R.bind X fun r => R.one (XE.normal, (⟨r.1, r.2, s.marks⟩ : St))) m s.h w .normal a' w' := by
    intro X hb r m' w0 w' a' hr1 g1 g2 g3 g4 hst hf hdf
    refine ⟨(.normal, ⟨r.1, r.2, s.marks⟩), m', (hb r hr1).2 _ rfl, trivial, (Step.drawn sr.hr g1 g2 g3 g4).trans hst, hf, ?_⟩
    show MarksR m' s.marks a'.defers
    rw [hdf]; exact sr.mr.mono hst.le
  cases draw with
  | true =>
    simp only [cond_true] at b1 b2 ⊢
    cases ht : tmpsOk ops (Region.before ops) with
    | false => simp [ht] at b1
    | true =>
      simp only [ht, cond_true] at b1 b2 ⊢
      refine wpIn_region_any hm ?_
      refine hd ops ro F _ m s.f s.h _ a ht b1 (sr.hr.drawn _ rfl) sr.ti sr.fr hro ?_
      intro r m' w' a' hr1 hst hf hdf
      exact done b2 r m' { w with drawn := w.drawn + 1 } w' a' hr1 rfl rfl rfl rfl hst hf hdf
  | false =>
    simp only [cond_false] at b1 b2 ⊢
    refine wpIn_region ?_
    rw [List.range_eq_range']
    have hl : ops.size = ops.toList.length := by simp
    rw [hl]
    refine ops_ok hc hs ops.toList 0 m s.f s.h w a rfl b1 sr.hr sr.ti sr.fr hro ?_
    intro r m' w' a' hr1 hst hf hdf
    exact done b2 r m' w w' a' hr1 rfl rfl rfl rfl hst hf hdf
theorem SR.after {s s' : St} {a a' : Act} (sr : SR m s a w) {m' : M} {w' : World} (hst : Step m s.h w m' s'.h w') (hf : FrR m' s'.f a'.tmps) (hmk : MarksR m' s'.marks a'.defers) : SR m' s' a' w' :=
  ⟨hst.hr, hst.tight sr.ti, hf, hmk⟩
theorem Post.then {X Y : R (XE × St)} {m' : M} {h' : H} {w' : World} (hst : Step m h w m' h' w') (hxy : ∀ r, Y.has r → X.has r) {e : Exit} {a2 : Act} {w2 : World} (hp : Post Y m' h' w' e a2 w2) : Post X m h w e a2 w2 := by
  obtain ⟨r, m2, q1, q2, q3, q4, q5⟩ := hp
  exact ⟨r, m2, hxy r q1, q2, hst.trans q3, q4, q5⟩
theorem wp_code {F : Fence} {Q : Exit → Act → World → Prop} {a : Act} {w : World} {c : Code} {e : Exit} (hc : (c = .ret ∧ e = .ret) ∨ ∃ i, c = .exit i ∧ e = .exit i) (hq : Q e a w) : c.wpIn F 0 P Q a w := by
  rcases hc with ⟨rfl, rfl⟩ | ⟨i, rfl, rfl⟩
  · exact wpIn_ret hq
  · exact wpIn_exit hq
theorem range_ok (hc : CallOK P call) {g : Operand} {ps : Array Tmp} {assign body : Code} {s : St} {ro : Option Nat} (e : xRangeFunc call ro g ps assign body s ≠ .no) {a : Act} (sr : SR m s a w) {F : Fence} (hro : RoF m ro F) :
    (Code.rangeFunc g ps assign body).wpIn F 0 P (Post (xRangeFunc call ro g ps assign body s) m s.h w) a w := by
  unfold xRangeFunc at e ⊢
  cases hg : ev s.f g with
  | none => simp [hg] at e
  | some gv =>
    cases gv <;> simp only [hg] at e ⊢ <;> (try (exact absurd rfl e))
    rename_i k first caps
    cases hn : rfNew ro s with
    | none => simp [hn] at e
    | some hm1 =>
      obtain ⟨h1, marks⟩ := hm1
      simp only [hn] at e ⊢
      obtain ⟨b1, b2⟩ := R.bind_has e
      obtain ⟨F', C', hq, v1, v2⟩ : ∃ F' C', a.eval g = .func (.func k) ⟨F'⟩ ⟨C'⟩ ∧ VRs m first F' ∧ VRs m caps C' := by
        have hgv := ev_VR sr.fr hg
        generalize hq : a.eval g = q at hgv
        cases hgv with
        | func h1 h2 => exact ⟨_, _, rfl, h1, h2⟩
      refine wpIn_rangeFunc fun fn _ => ?_
      -- the mark
      have first_ : ∃ (dfr : Nat) (mark : List Deferred) (w1 : World) (m1 : M), (∀ fn tmps, (Instr.enterLoop fn tmps ps assign body F.round).run P w = .ok (w1.heap.size, mark) (w1.alloc (.loop { state := .ready, pending := none, fn, tmps, params := ps, assign, body, defers := dfr }))) ∧
          Step m s.h w m1 h1 w1 ∧ MarksR m1 marks (mark ++ a.defers) := by
        cases ro with
        | none =>
          cases hro
          simp only [rfNew, Option.some.injEq, Prod.mk.injEq] at hn
          obtain ⟨rfl, rfl⟩ := hn
          have st := new_obj sr.hr sr.ti.none .deferred (.deferred (some [])) 0 (fun _ _ _ e => e)
          refine ⟨w.heap.size, [{ target := .collected w.heap.size, args := #[] }], w.alloc (.deferred (some [])), _, fun fn tmps => ?_, st, ?_⟩
          · have := run_enterLoop_outer (P := P) (w := w) fn tmps ps assign body
            show (Instr.enterLoop fn tmps ps assign body none).run P w = _
            simpa using this
          · exact .cons (M.upd_same _ _ _) (sr.mr.mono st.le)
        | some l =>
          obtain ⟨b, d, n, hml, rfl⟩ := hro
          simp only [rfNew] at hn
          cases hgl : s.h.get l with
          | none => simp [hgl] at hn
          | some o =>
            cases o <;> simp only [hgl] at hn <;> (try (cases hn; done))
            rename_i r t sz
            simp only [Option.some.injEq, Prod.mk.injEq] at hn
            obtain ⟨rfl, rfl⟩ := hn
            obtain ⟨L, l1, _⟩ := sr.hr.loop hml hgl
            refine ⟨L.defers, [], w, m, fun fn tmps => ?_, .refl sr.hr, sr.mr⟩
            show (Instr.enterLoop fn tmps ps assign body (some b)).run P w = _
            unfold Instr.enterLoop
            simp only [Sem.run_bind, run_getLoop l1, Result.andThen_ok, Sem.run_pure, run_newObj_alloc]
      obtain ⟨dfr, mark, w1, m1, en, st1, mk1⟩ := first_
      -- the record
      have st2 : Step m1 h1 w1 (m1.upd h1.next (w1.heap.size, 0, 0)) (h1.new (.loop { state := .ready, pending := none, fn := 0, tmps := #[], params := ps, assign, body, defers := 0 } s.f.t s.f.sz)) (w1.alloc (.loop { state := .ready, pending := none, fn := fn, tmps := a.tmps, params := ps, assign, body, defers := dfr })) :=
        new_obj st1.hr (st1.tight sr.ti).none _ _ 0 fun m' hle w' hw' => ⟨_, hw', rfl, rfl, rfl, rfl, rfl, (sr.fr.mono st1.le).mono hle⟩
      have hml : (m1.upd h1.next (w1.heap.size, 0, 0)) h1.next = some (w1.heap.size, 0, 0) := M.upd_same _ _ _
      have st12 := st1.trans st2
      have hargs : VRs (m1.upd h1.next (w1.heap.size, 0, 0)) (first ++ ([.yield h1.next] ++ caps)) (((⟨F'⟩ : Array Value) ++ #[Value.func (.yield w1.heap.size) #[] #[]]) ++ (⟨C'⟩ : Array Value)).toList := by
        have a1 : VRs (m1.upd h1.next (w1.heap.size, 0, 0)) [.yield h1.next] [.func (.yield w1.heap.size) #[] #[]] := .cons (.yield hml) .nil
        have := (v1.mono st12.le).append (a1.append (v2.mono st12.le))
        simpa using this
      have hcall := hc k _ _ b1 _ _ _ st2.hr (st2.tight (st1.tight sr.ti)) hargs
      have hcall := hcall.resolve_right (by
        rintro ⟨⟨s1, s2, c1⟩, _⟩
        rcases first with _ | ⟨x, _ | ⟨y, _⟩⟩ <;> simp at c1)
      obtain ⟨c1, c2⟩ := hcall
      · refine ⟨w1.heap.size, mark, _, ({ target := .fn (.func k) ⟨C'⟩, args := (⟨F'⟩ : Array Value) ++ #[Value.func (.yield w1.heap.size) #[] #[]] } : Deferred), _, k, _, _, en fn a.tmps, ?_, fun f' _ => hro.fn f', c1, ?_, hro.calls (c2.mono ?_)⟩
        · simp only [resolve, rangeCall, hq, Deferred.ofValue, Sem.run_bind, Sem.run_pure, Result.andThen_ok]
          simp [Act.eval]
        · rw [hro.depth]; intro x; cases x
        · rintro ex w3 ⟨V, rfl, r, m3, r1, r2, r3⟩
          obtain ⟨d1, d2⟩ := b2 r r1
          unfold rfEnd at d1 d2
          cases hgr : r.2.get h1.next with
          | none => simp [hgr] at d1
          | some o =>
            cases o <;> simp only [hgr] at d1 d2 <;> (try (exact absurd rfl d1))
            rename_i q t sz
            have hml3 := r2.le _ _ hml
            obtain ⟨L, l1, l2, l3, _⟩ := r2.hr.loop hml3 hgr
            have st3 : Step m3 r.2 w3 m3 (r.2.put h1.next .dead) (w3.putObj w1.heap.size (.loop { L with state := .exhausted })) :=
              put_obj r2.hr (w1 := w3) .dead _ hml3 hgr (by simp) rfl rfl rfl rfl fun w' _ => trivial
            have stA := (st12.trans r2).trans st3
            have hfr : FrR m3 s.f ({ a with defers := mark ++ a.defers } : Act).tmps := sr.fr.mono stA.le
            have hmk : MarksR m3 marks ({ a with defers := mark ++ a.defers } : Act).defers := mk1.mono fun i x hx => r2.le _ _ (st2.le _ _ hx)
            cases hstt : q.state <;> simp only [hstt] at d1 d2 <;> (try (exact absurd rfl d1))
            all_goals
              have hend := run_endLoop (P := P) l1 (by rw [l2, hstt]; simp)
              generalize w3.putObj w1.heap.size (.loop { L with state := .exhausted }) = W4 at stA hend
              refine ⟨_, W4, hend, ?_⟩
              rw [l3]
              cases hpe : q.pending with
              | none =>
                simp only [hpe] at d1 d2 ⊢
                exact ⟨(.normal, _), m3, d2 _ rfl, trivial, stA, hfr, hmk⟩
              | some c =>
                cases c <;> simp only [hpe] at d1 d2 ⊢ <;> (try (exact absurd rfl d1))
                · exact wpIn_exit ⟨(.exit _, _), m3, d2 _ rfl, rfl, stA, hfr, hmk⟩
                · exact wpIn_ret ⟨(.ret, _), m3, d2 _ rfl, trivial, stA, hfr, hmk⟩
end Go.X

/-
  Code, a level: whole. Calls, a level: whole.
-/
namespace Go.X
variable {P : Program} {m : M} {h : H} {w : World} {call : FuncId → List LV → H → R (LV × H)} {self exec : Option Nat → Code → St → R (XE × St)}

theorem exec_ok (hm : P.follows .mixedOrders = true) (hd : DrawOK P call self) (hc : CallOK P call) (hs : ExecOK P self) : ExecOK P (execStep P call self) := by
  intro ro c s e m w a F sr hro
  -- a statement behind another
  have seq : ∀ (x : Code) (g : XE × St → R (XE × St)) (K : Act → World → Prop), R.bind (self ro x s) g ≠ .no → (∀ r, r.1 ≠ .normal → g r = .one r) →
      (∀ r m' w' a', (self ro x s).has r → r.1 = .normal → g r ≠ .no → SR m' r.2 a' w' → RoF m' ro F → (∀ q, (g r).has q → (R.bind (self ro x s) g).has q) → Step m s.h w m' r.2.h w' → K a' w') →
      x.wpIn F 0 P (Exit.then K (Post (R.bind (self ro x s) g) m s.h w)) a w := by
    intro x g K e hne hK
    obtain ⟨b1, b2⟩ := R.bind_has e
    refine wpIn_mono (hs ro x s b1 m w a F sr hro).1 fun ex a' w' ⟨r, m', q1, q2, q3, q4, q5⟩ => ?_
    obtain ⟨c1, c2⟩ := b2 r q1
    by_cases hr1 : r.1 = .normal
    · have : ex = .normal := by
        rw [hr1] at q2
        cases ex <;> simp only [ExitIs] at q2
        rfl
      subst this
      exact hK r m' w' a' q1 hr1 c1 ⟨q3.hr, q3.tight sr.ti, q4, q5⟩ (hro.mono q3.le) c2 q3
    · have hp : Post (R.bind (self ro x s) g) m s.h w ex a' w' := ⟨r, m', c2 r (by rw [hne r hr1]; rfl), q2, q3, q4, q5⟩
      cases ex <;> first | exact hp | (exfalso; cases hrr : r.1 <;> rw [hrr] at q2 hr1 <;> simp [ExitIs] at q2 hr1)
  cases c with
  | skip => exact ⟨wpIn_skip (Post.exit sr rfl trivial), fun _ h => by cases h⟩
  | label l => exact ⟨wpIn_label (Post.exit sr rfl trivial), fun _ h => by cases h⟩
  | exit i => exact ⟨wpIn_exit (Post.exit sr rfl rfl), fun _ h => by cases h⟩
  | ret => exact ⟨wpIn_ret (Post.exit sr rfl trivial), fun _ h => by cases h⟩
  | goto l => exact absurd rfl e
  | refuse x => exact absurd rfl e
  | region id ops draw => exact ⟨region_ok hm hd hc hs e sr hro, fun _ h => by cases h⟩
  | rangeFunc g ps assign body => exact ⟨range_ok hc e sr hro, fun _ h => by cases h⟩
  | seq x y =>
    refine ⟨wpIn_seq (seq x _ _ e (fun r hr => by cases hq : r.1 <;> simp_all) ?_), fun _ h => by cases h⟩
    intro r m' w' a' _ hr1 c1 sr' hro' c2 hst
    simp only [hr1] at c1 c2
    exact wpIn_mono (hs ro y r.2 c1 m' w' a' F sr' hro').1 fun _ _ _ hp => hp.then hst c2
  | cond x y z =>
    simp only [execStep] at e ⊢
    cases hx : ev s.f x with
    | none => simp [hx] at e
    | some v =>
      cases v <;> simp only [hx] at e ⊢ <;> (try (exact absurd rfl e))
      rename_i t
      have hv := ev_VR sr.fr hx
      have hb : a.eval x = .bool t := by generalize hq : a.eval x = q at hv; cases hv; rfl
      refine ⟨wpIn_cond hb ?_, fun _ h => by cases h⟩
      cases t with
      | true => exact (hs ro y s e m w a F sr hro).1
      | false => exact (hs ro z s e m w a F sr hro).1
  | block id x =>
    simp only [execStep] at e ⊢
    obtain ⟨b1, b2⟩ := R.bind_has e
    refine ⟨wpIn_block (wpIn_mono (hs ro x s b1 m w a F sr hro).1 fun ex a' w' ⟨r, m', q1, q2, q3, q4, q5⟩ => ?_), fun _ h => by cases h⟩
    obtain ⟨c1, c2⟩ := b2 r q1
    cases hr1 : r.1 with
    | exit i =>
      rw [hr1] at q2
      cases ex <;> simp only [ExitIs] at q2
      subst q2
      simp only [hr1] at c1 c2
      simp only [Exit.inBlock]
      rw [nbeq] at c2
      by_cases hi : i = id
      · subst hi
        simp only [decide_true, cond_true] at c2
        rw [if_pos rfl]
        exact ⟨_, m', c2 _ rfl, trivial, q3, q4, q5⟩
      · simp only [hi, decide_false, cond_false] at c2
        rw [if_neg hi]
        exact ⟨_, m', c2 _ rfl, rfl, q3, q4, q5⟩
    | normal =>
      rw [hr1] at q2
      cases ex <;> simp only [ExitIs] at q2
      simp only [hr1] at c1 c2
      exact ⟨r, m', c2 _ rfl, by rw [hr1]; trivial, q3, q4, q5⟩
    | ret =>
      rw [hr1] at q2
      cases ex <;> simp only [ExitIs] at q2
      simp only [hr1] at c1 c2
      exact ⟨r, m', c2 _ rfl, by rw [hr1]; trivial, q3, q4, q5⟩
    | goto l =>
      rw [hr1] at q2
      cases ex <;> simp only [ExitIs] at q2
      simp only [hr1] at c1 c2
      exact ⟨r, m', c2 _ rfl, by rw [hr1]; exact q2, q3, q4, q5⟩
  | loop x =>
    have hl : LoopAt F 0 P x (Post (execStep P call self ro (.loop x) s) m s.h w) a w := by
      refine LoopAt.round (seq x _ _ e (fun r hr => by cases hq : r.1 <;> simp_all) ?_)
      intro r m' w' a' _ hr1 c1 sr' hro' c2 hst
      simp only [hr1] at c1 c2
      exact ((hs ro (.loop x) r.2 c1 m' w' a' F sr' hro').2 x rfl).mono fun _ _ _ hp => hp.then hst c2
    exact ⟨hl.wpIn, fun body hb => by cases hb; exact hl⟩
  | scope x =>
    simp only [execStep] at e ⊢
    obtain ⟨b1, b2⟩ := R.bind_has e
    refine ⟨wpIn_scope (wpIn_mono (hs ro x s b1 m w a F sr hro).1 fun ex a' w' ⟨r, m', q1, q2, q3, q4, q5⟩ => ?_), fun _ h => by cases h⟩
    obtain ⟨c1, c2⟩ := b2 r q1
    cases hr1 : r.1 with
    | goto l => simp [hr1] at c1
    | _ =>
      simp only [hr1] at c1 c2
      have hp : Post _ m s.h w ex a' w' := ⟨r, m', c2 _ rfl, q2, q3, q4, q5⟩
      rw [hr1] at q2
      cases ex <;> simp only [ExitIs] at q2 <;> exact hp

/-! ### Calls -/
theorem initT_get : ∀ (vs : List LV) (i : Nat) (t : T LV) (j : Nat), (initT i vs t).get j = if i ≤ j ∧ j < i + vs.length then vs[j - i]? else t.get j := by
  intro vs
  induction vs with
  | nil => intro i t j; simp only [initT, List.length_nil]; rw [if_neg (by omega)]
  | cons v vs ih =>
    intro i t j
    simp only [initT]
    rw [ih, T.get_set]
    by_cases hj : j = i
    · subst hj
      rw [if_neg (by simp only [Nat.succ_eq_add_one]; omega), if_pos rfl, if_pos (by simp)]; simp
    · rw [if_neg hj]
      by_cases h2 : i ≤ j ∧ j < i + (v :: vs).length
      · simp only [List.length_cons] at h2
        rw [if_pos (by simp only [Nat.succ_eq_add_one]; omega), if_pos (by simpa using h2)]
        rw [show j - i = (j - (i + 1)) + 1 by omega, List.getElem?_cons_succ]
      · simp only [List.length_cons] at h2
        rw [if_neg (by simp only [Nat.succ_eq_add_one]; omega), if_neg (by simpa using h2)]
theorem enter_FrR {args : List LV} {A : Array Value} (ha : VRs m args A.toList) {n : Nat} (hn : args.length ≤ n) : FrR m ⟨initT 0 args .leaf, n⟩ (A ++ Array.replicate (n - A.size) undef) where
  size := by have := ha.length; simp at this ⊢; omega
  get i := by
    have hl : args.length = A.size := by simpa using ha.length
    simp only [Fr.get]
    rw [initT_get]
    by_cases hi : i < args.length
    · rw [if_pos ⟨Nat.zero_le _, by omega⟩]
      obtain ⟨V, h1, h2⟩ := ha.get (List.getElem?_eq_getElem hi)
      simp only [Nat.sub_zero, List.getElem?_eq_getElem hi, orUndef]
      have : (A ++ Array.replicate (n - A.size) undef).getD i undef = V := by
        rw [Array.getD_eq_getD_getElem?, Array.getElem?_append_left (by omega)]
        rw [Array.getElem?_toList] at h1
        rw [h1]; rfl
      rw [this]; exact h2
    · rw [if_neg (by omega), T.get_leaf]
      simp only [orUndef]
      have : (A ++ Array.replicate (n - A.size) undef).getD i undef = undef := by
        rw [Array.getD_eq_getD_getElem?, Array.getElem?_append_right (by omega), Array.getElem?_replicate]
        split <;> rfl
      rw [this]; exact undefL_VR
theorem xResult_run (hr : HR m h w) {f : Fr} {A : Array Value} (hf : FrR m f A) {g : ResultVar → Sem Value} (g1 : ∀ t, g (.tmp t) = pure (A.getD t undef)) (g2 : ∀ a t, g (.cell a t) = do loadVar t (← asAddr (A.getD a undef))) {r : ResultVar} {v : LV} (e : xResult P f h r = some v) :
    ∃ V, (g r).run P w = .ok V w ∧ VR m v V := by
  cases r with
  | tmp t => simp only [xResult, Option.some.injEq] at e; subst e; exact ⟨_, by rw [g1]; rfl, hf.get t⟩
  | cell a t =>
    simp only [xResult] at e
    have hv := hf.get a
    unfold xLoad at e
    generalize hq : A.getD a undef = q at hv
    cases hg : f.get a <;> simp only [hg] at e <;> (try (cases e; done))
    rw [hg] at hv
    cases hv
    rename_i hm
    obtain ⟨V, h1, h2⟩ := loadVar_run (P := P) hr hm e
    exact ⟨V, by rw [g2]; simp only [hq, asAddr, Sem.run_bind, Sem.run_pure, Result.andThen_ok, h1], h2⟩
theorem xResults_run (hr : HR m h w) {f : Fr} {A : Array Value} (hf : FrR m f A) {g : ResultVar → Sem Value} (g1 : ∀ t, g (.tmp t) = pure (A.getD t undef)) (g2 : ∀ a t, g (.cell a t) = do loadVar t (← asAddr (A.getD a undef))) :
    ∀ {rs : List ResultVar} {vs : List LV}, xResults P f h rs = some vs → ∃ VS, (rs.mapM (m := Sem) g).run P w = .ok VS w ∧ VRs m vs VS := by
  intro rs
  induction rs with
  | nil => intro vs e; simp [xResults] at e; subst e; exact ⟨[], by simp, .nil⟩
  | cons r rs ih =>
    intro vs e
    simp only [xResults] at e
    cases h1 : xResult P f h r with
    | none => simp [h1] at e
    | some v =>
      cases h2 : xResults P f h rs with
      | none => simp [h1, h2] at e
      | some us =>
        simp only [h1, h2, Option.some.injEq] at e; subst e
        obtain ⟨V, a1, a2⟩ := xResult_run hr hf g1 g2 h1
        obtain ⟨VS, b1, b2⟩ := ih h2
        refine ⟨V :: VS, ?_, .cons a2 b2⟩
        rw [List.mapM_cons]
        simp only [Sem.run_bind, Sem.run_pure]
        rw [a1]
        simp only [Result.andThen_ok]
        rw [b1]
        rfl
theorem oneOrTuple_VR {vs : List LV} {VS : List Value} (hv : VRs m vs VS) : VR m (oneOrTuple vs) (if h : (⟨VS⟩ : Array Value).size = 1 then (⟨VS⟩ : Array Value)[0] else .tuple ⟨VS⟩) := by
  cases hv with
  | nil => exact .tuple .nil
  | cons h1 h2 =>
    cases h2 with
    | nil => exact h1
    | cons h2 h3 => exact .tuple (.cons h1 (.cons h2 h3))
theorem results_run (hr : HR m h w) {f : Fr} {A : Array Value} (hf : FrR m f A) {fn : Func} {vs : List LV} (e : xResults P f h fn.results.toList = some vs) : ∃ V, (results fn A).run P w = .ok V w ∧ VR m (oneOrTuple vs) V := by
  suffices hg : ∀ (g : ResultVar → Sem Value) (_ : ∀ t, g (.tmp t) = pure (A.getD t undef)) (_ : ∀ a t, g (.cell a t) = do loadVar t (← asAddr (A.getD a undef))),
      ∃ V, (do let vs ← fn.results.mapM g; pure (if h : vs.size = 1 then vs[0] else .tuple vs) : Sem Value).run P w = .ok V w ∧ VR m (oneOrTuple vs) V from
    hg _ (fun _ => rfl) (fun _ _ => rfl)
  intro g g1 g2
  obtain ⟨VS, h1, h2⟩ := xResults_run hr hf g1 g2 e
  refine ⟨_, ?_, oneOrTuple_VR h2⟩
  rw [Array.mapM_eq_mapM_toList]
  simp only [map_eq_pure_bind, Sem.run_bind, Sem.run_pure]
  rw [h1]
  rfl
theorem leaves_ok {fn : Func} {T : Array Value} {R : Ending → World → Prop} {f : Fr} : ∀ (marks : List Nat) (ds : List Deferred) (h : H) (w : World), HR m h w → MarksR m marks ds → FrR m f T → ∀ h' vs, shut h marks = some h' → xResults P f h' fn.results.toList = some vs →
    (∀ V w', Step m h w m h' w' → VR m (oneOrTuple vs) V → R (.returned V) w') → LeavesInM Fence.wide 0 P fn T R ds .returning w := by
  intro marks
  induction marks with
  | nil =>
    intro ds h w hr hmk hf h' vs e1 e2 hR
    cases hmk
    simp only [shut, Option.some.injEq] at e1; subst e1
    obtain ⟨V, r1, r2⟩ := results_run hr hf e2
    exact ⟨V, r1, hR V w (.refl hr) r2⟩
  | cons i marks ih =>
    intro ds h w hr hmk hf h' vs e1 e2 hR
    cases hmk with
    | cons hm ht =>
      rename_i b d n L
      simp only [shut] at e1
      cases hg : h.get i with
      | none => simp [hg] at e1
      | some o =>
        cases o <;> simp only [hg] at e1 <;> (try (cases e1; done))
        have ho : w.heap[b]? = some (.deferred (some [])) := hr.at hm hg
        have st : Step m h w m (h.put i .dead) (w.putObj b (.deferred none)) := put_obj hr (w1 := w) .dead _ hm hg (by simp) rfl rfl rfl rfl fun _ _ => trivial
        refine ⟨by simp, .inl ⟨b, _, rfl, run_takeDeferred ho, ?_⟩⟩
        exact ih L _ _ st.hr ht hf h' vs e1 e2 fun V w' s v => hR V w' (st.trans s) v
/-- What is asked of the summaries. -/
def SumsOK (P : Program) (sums : FuncId → List LV → Option LV) : Prop := ∀ k args v, sums k args = some v → (∃ fn, P.funcs[k]? = some fn ∧ fn.body.isNone = false) ∧
  ∀ (m : M) (A : Array Value), VRs m args A.toList → ∃ V, VR m v V ∧ ∀ w, Calls P k A w fun e w' => e = .returned V ∧ RowKit.Below w.heap.size w w'
def ExtsOK (P : Program) (exts : FuncId → List LV → Option LV) : Prop := ∀ k args v, exts k args = some v → (∃ s c, args = [.str s, .int .u8 c]) ∧
  ∀ (m : M) (A : Array Value), VRs m args A.toList → ∃ V, VR m v V ∧ ∀ w, (callFunc k A).run P w = .ok (.value V) w
theorem enter_run {k : FuncId} {fn : Func} (hng : (fn.name == "runtime.NumGoroutine") = false) (hf : P.funcs[k]? = some fn) (hb : fn.body.isNone = false) (A : Array Value) (w : World) : (callFunc k A).run P w = .ok (.enter k A) w := by
  simp only [callFunc, Sem.run_bind, run_program, Result.andThen_ok, hf, hng, hb]
  rfl
theorem Step.below (hr : HR m h w) {w' : World} (hb : RowKit.Below w.heap.size w w') : Step m h w m h w' where
  mle _ _ := rfl
  le _ _ h := h
  next := Nat.le_refl _
  hr := {
    wf := hr.wf
    obj := fun i b d n hm hi => let ⟨o, h1, h2⟩ := hr.obj i b d n hm hi; ⟨o, h1, h2.mono (fun _ _ h => h) (hb.block b (hr.blk i b d n hm))⟩
    blk := fun i b d n hm => Nat.lt_of_lt_of_le (hr.blk i b d n hm) hb.size
    inj := hr.inj
    park := hr.park }
  log _ h := h
  same _ _ _ := rfl
  dead _ _ h := h
  fresh i b d n _ h1 h2 := by omega
  size := hb.size
  frame b hbl _ := hb.block b hbl
  os := hb.os
  tape := hb.tape
  output := hb.output
theorem call_ok (hng : ∀ (k : Nat) (fn : Func), P.funcs[k]? = some fn → (fn.name == "runtime.NumGoroutine") = false) {exts sums : FuncId → List LV → Option LV} (hx : ExtsOK P exts) (hsum : SumsOK P sums) (hs : ExecOK P exec) : CallOK P (callStep P exts sums exec) := by
  intro k args h e m w A hr ht ha
  unfold callStep at e ⊢
  cases hk : sums k args with
  | some v =>
    obtain ⟨⟨fn, f1, f2⟩, hk2⟩ := hsum k args v hk
    obtain ⟨V, hv, hcalls⟩ := hk2 m A ha
    refine .inl ⟨enter_run (hng k fn f1) f1 f2 A w, (callsIn_wide.2 (hcalls w)).mono ?_⟩
    rintro ex w' ⟨rfl, hb⟩
    exact ⟨V, rfl, (v, h), m, rfl, Step.below hr hb, hv⟩
  | none =>
    simp only [hk] at e ⊢
    cases hf : P.funcs[k]? with
    | none => simp [hf] at e
    | some fn =>
      simp only [hf] at e ⊢
      cases hb : fn.body with
      | none =>
        simp only [hb] at e ⊢
        cases hq : exts k args with
        | none => simp [hq] at e
        | some v =>
          obtain ⟨q1, q2⟩ := hx k args v hq
          obtain ⟨V, hv, hrun⟩ := q2 m A ha
          exact .inr ⟨q1, V, w, hrun w, (v, h), m, rfl, .refl hr, hv⟩
      | some c =>
        simp only [hb] at e ⊢
        cases hle : Nat.ble args.length fn.ntmps with
        | false => simp [hle] at e
        | true =>
          simp only [hle, cond_true] at e ⊢
          rw [nble] at hle
          obtain ⟨b1, b2⟩ := R.bind_has e
          refine .inl ⟨enter_run (hng k fn hf) hf (by rw [hb]; rfl) A w, callsIn_of_wp_marks hf hb trivial ?_⟩
          have sr : SR m ⟨⟨initT 0 args .leaf, fn.ntmps⟩, h, []⟩ { tmps := A ++ Array.replicate (fn.ntmps - A.size) undef, defers := [] } w := ⟨hr, ht, enter_FrR ha (by simpa using hle), .nil⟩
          refine wpIn_mono (hs none c _ b1 m w _ Fence.wide sr rfl).1 fun ex a' w' ⟨r, m', q1, q2, q3, q4, q5⟩ => ?_
          obtain ⟨c1, c2⟩ := b2 r q1
          have fin : callEnd P fn r.2 ≠ .no → (∀ q, (callEnd P fn r.2).has q → (R.bind (exec none c ⟨⟨initT 0 args .leaf, fn.ntmps⟩, h, []⟩) fun r => match r.1 with | .normal => callEnd P fn r.2 | .ret => callEnd P fn r.2 | _ => .no).has q) →
              LeavesInM Fence.wide 0 P fn a'.tmps (fun e w' => ∃ V, e = .returned V ∧ CallPost (R.bind (exec none c ⟨⟨initT 0 args .leaf, fn.ntmps⟩, h, []⟩) fun r => match r.1 with | .normal => callEnd P fn r.2 | .ret => callEnd P fn r.2 | _ => .no) m h w V w') a'.defers .returning w' := by
            intro d1 d2
            unfold callEnd at d1 d2
            cases h1 : shut r.2.h r.2.marks with
            | none => simp [h1] at d1
            | some h' =>
              simp only [h1] at d1 d2
              cases h2 : xResults P r.2.f h' fn.results.toList with
              | none => simp [h2] at d1
              | some vs =>
                simp only [h2] at d1 d2
                refine leaves_ok r.2.marks a'.defers r.2.h w' q3.hr q5 q4 h' vs h1 h2 fun V w2 st hv => ⟨V, rfl, (oneOrTuple vs, h'), m', d2 _ rfl, q3.trans st, hv⟩
          cases hr1 : r.1 with
          | normal =>
            rw [hr1] at q2
            cases ex <;> simp only [ExitIs] at q2
            simp only [hr1] at c1 c2
            exact fin c1 c2
          | ret =>
            rw [hr1] at q2
            cases ex <;> simp only [ExitIs] at q2
            simp only [hr1] at c1 c2
            exact fin c1 c2
          | _ => simp [hr1] at c1
end Go.X

/-
  Which operations stand ahead of which: of the numbers of Region.before; of what is ready.
-/
namespace Go.X

def bstep (acc : Array Nat) (o : Oper) : Nat := o.after.foldl (fun s e => if Region.binds .any e then s ||| 2 ^ e.on ||| acc.getD e.on 0 else s) 0
theorem bit_list (acc : Array Nat) (i : Nat) : ∀ (l : List Edge) (s : Nat), Nat.testBit (l.foldl (fun s e => if Region.binds .any e then s ||| 2 ^ e.on ||| acc.getD e.on 0 else s) s) i = true →
    Nat.testBit s i = true ∨ ∃ e ∈ l, Region.binds .any e = true ∧ (e.on = i ∨ Nat.testBit (acc.getD e.on 0) i = true) := by
  intro l
  induction l with
  | nil => intro s h; exact .inl h
  | cons e l ih =>
    intro s h
    simp only [List.foldl_cons] at h
    rcases ih _ h with h1 | ⟨e', h1, h2, h3⟩
    · by_cases hb : Region.binds .any e = true
      · rw [if_pos hb] at h1
        simp only [Nat.testBit_or, Bool.or_eq_true, Nat.testBit_two_pow, decide_eq_true_eq] at h1
        rcases h1 with (h1 | h1) | h1
        · exact .inl h1
        · exact .inr ⟨e, by simp, hb, .inl h1⟩
        · exact .inr ⟨e, by simp, hb, .inr h1⟩
      · rw [if_neg hb] at h1
        exact .inl h1
    · exact .inr ⟨e', by simp [h1], h2, h3⟩
theorem before_list : ∀ (l : List Oper) (acc : Array Nat), (l.foldl (fun acc o => acc.push (bstep acc o)) acc).size = acc.size + l.length ∧
    (∀ j, j < acc.size → (l.foldl (fun acc o => acc.push (bstep acc o)) acc).getD j 0 = acc.getD j 0) ∧
    ∀ j o, l[j]? = some o → ∃ pre : Array Nat, pre.size = acc.size + j ∧ (∀ x, x < acc.size + j → pre.getD x 0 = (l.foldl (fun acc o => acc.push (bstep acc o)) acc).getD x 0) ∧
      (l.foldl (fun acc o => acc.push (bstep acc o)) acc).getD (acc.size + j) 0 = bstep pre o := by
  intro l
  induction l with
  | nil => intro acc; exact ⟨by simp, fun j _ => rfl, fun j o h => by simp at h⟩
  | cons o l ih =>
    intro acc
    obtain ⟨h1, h2, h3⟩ := ih (acc.push (bstep acc o))
    have hg : ∀ j, j < acc.size → (acc.push (bstep acc o)).getD j 0 = acc.getD j 0 := by
      intro j hj
      simp only [Array.getD_eq_getD_getElem?]
      rw [Array.getElem?_push, if_neg (by omega)]
    simp only [List.foldl_cons]
    refine ⟨by rw [h1]; simp; omega, fun j hj => ?_, fun j o' hj => ?_⟩
    · rw [h2 j (by simp; omega), hg j hj]
    · cases j with
      | zero =>
        simp only [List.getElem?_cons_zero, Option.some.injEq] at hj; subst hj
        refine ⟨acc, rfl, fun x hx => ?_, ?_⟩
        · rw [h2 x (by simp at hx ⊢; omega), hg x (by simpa using hx)]
        · rw [Nat.add_zero, h2 acc.size (by simp)]
          simp [Array.getD_eq_getD_getElem?]
      | succ j =>
        simp only [List.getElem?_cons_succ] at hj
        obtain ⟨pre, p1, p2, p3⟩ := h3 j o' hj
        simp only [Array.size_push] at p1 p2 p3
        refine ⟨pre, by omega, fun x hx => p2 x (by omega), ?_⟩
        rw [show acc.size + (j + 1) = acc.size + 1 + j by omega]
        exact p3
/-- Is i ahead of j? -/
def Ahead (ops : Array Oper) (i j : Nat) : Prop := Nat.testBit ((Region.before ops).getD j 0) i = true
theorem before_eq (ops : Array Oper) : Region.before ops = ops.toList.foldl (fun acc o => acc.push (bstep acc o)) #[] := by
  unfold Region.before
  rw [← Array.foldl_toList]
  rfl
theorem ahead_step {ops : Array Oper} {i j : Nat} (h : Ahead ops i j) : ∃ o, ops[j]? = some o ∧ ∃ e ∈ o.after.toList, Region.binds .any e = true ∧ (e.on = i ∨ (e.on < j ∧ Ahead ops i e.on)) := by
  unfold Ahead at h
  rw [before_eq] at h
  obtain ⟨h1, h2, h3⟩ := before_list ops.toList #[]
  cases ho : ops[j]? with
  | none =>
    exfalso
    have hle : ops.size ≤ j := by simpa using ho
    rw [Array.getD_eq_getD_getElem?, Array.getElem?_eq_none (by rw [h1]; simpa using hle)] at h
    simp at h
  | some o =>
    obtain ⟨pre, p1, p2, p3⟩ := h3 j o (by simpa using ho)
    simp only [Array.size_empty, Nat.zero_add] at p1 p2 p3
    rw [p3] at h
    unfold bstep at h
    rw [← Array.foldl_toList] at h
    rcases bit_list pre i _ _ h with h | ⟨e, e1, e2, e3⟩
    · simp at h
    · refine ⟨o, rfl, e, e1, e2, ?_⟩
      rcases e3 with e3 | e3
      · exact .inl e3
      · by_cases hlt : e.on < j
        · refine .inr ⟨hlt, ?_⟩
          unfold Ahead
          rw [before_eq, ← p2 _ hlt]; exact e3
        · exfalso
          rw [Array.getD_eq_getD_getElem?, Array.getElem?_eq_none (by omega)] at e3
          simp at e3
/-- What is listed is closed: whatever an edge binds it to is listed. -/
def Shut (ops : Array Oper) (l : Nat → Prop) : Prop := ∀ j o, l j → ops[j]? = some o → ∀ e ∈ o.after.toList, Region.binds .any e = true → l e.on
theorem Shut.ahead {ops : Array Oper} {l : Nat → Prop} (hs : Shut ops l) : ∀ (j i : Nat), l j → Ahead ops i j → l i := by
  intro j
  induction j using Nat.strongRecOn with
  | _ j ih =>
    intro i hj ha
    obtain ⟨o, ho, e, e1, e2, e3⟩ := ahead_step ha
    have := hs j o hj ho e e1 e2
    rcases e3 with e3 | ⟨e3, e4⟩
    · rw [← e3]; exact this
    · exact ih e.on e3 i this e4
def Listed (a : Array Bool) (i : Nat) : Prop := a.getD i false = true
theorem ready_iff {ops : Array Oper} {a : Array Bool} {i : Nat} (ha : a.size = ops.size) : i ∈ Region.ready .any ops a ↔ i < ops.size ∧ ¬ Listed a i ∧ ∃ o, ops[i]? = some o ∧ ∀ e ∈ o.after.toList, Region.binds .any e = true → Listed a e.on := by
  unfold Region.ready Listed
  simp only [List.mem_filter, List.mem_range, Bool.and_eq_true, Bool.not_eq_true']
  constructor
  · rintro ⟨h1, h2, h3⟩
    have ho : ops[i]? = some ops[i] := Array.getElem?_eq_getElem h1
    rw [ho] at h3
    simp only [Option.map_some, Option.getD_some] at h3
    refine ⟨h1, ?_, _, ho, fun e he hb => ?_⟩
    · rw [Array.getD_eq_getD_getElem?, Array.getElem?_eq_getElem (by omega)] at h2 ⊢
      simp only [Option.getD_some] at h2 ⊢
      rw [h2]; simp
    · have := Array.all_eq_true'.1 h3 e (by simpa using he)
      simp only [hb, Bool.not_true, Bool.false_or] at this
      exact this
  · rintro ⟨h1, h2, o, ho, h3⟩
    refine ⟨h1, ?_, ?_⟩
    · rw [Array.getD_eq_getD_getElem?, Array.getElem?_eq_getElem (by omega)] at h2 ⊢
      simp only [Option.getD_some] at h2 ⊢
      simpa using h2
    · rw [ho]
      simp only [Option.map_some, Option.getD_some]
      rw [Array.all_eq_true']
      intro e he
      cases hb : Region.binds .any e with
      | false => rfl
      | true => simpa using h3 e (by simpa using he) hb
theorem ready_ahead {ops : Array Oper} {a : Array Bool} (ha : a.size = ops.size) (hs : Shut ops (Listed a)) {i j : Nat} (hi : j ∈ Region.ready .any ops a) (hij : Ahead ops i j) : Listed a i := by
  obtain ⟨_, _, o, ho, h3⟩ := (ready_iff ha).1 hi
  obtain ⟨o', ho', e, e1, e2, e3⟩ := ahead_step hij
  rw [ho] at ho'; cases ho'
  have := h3 e e1 e2
  rcases e3 with e3 | ⟨_, e4⟩
  · rw [← e3]; exact this
  · exact hs.ahead _ _ this e4
theorem listed_set {a : Array Bool} {i j : Nat} (hi : i < a.size) : Listed (a.setIfInBounds i true) j ↔ j = i ∨ Listed a j := by
  unfold Listed
  simp only [Array.getD_eq_getD_getElem?]
  by_cases h : j = i
  · subst h; simp [hi]
  · rw [Array.getElem?_setIfInBounds_ne (Ne.symm h)]; simp [h]
theorem shut_set {ops : Array Oper} {a : Array Bool} (ha : a.size = ops.size) (hs : Shut ops (Listed a)) {i : Nat} (hi : i ∈ Region.ready .any ops a) : Shut ops (Listed (a.setIfInBounds i true)) := by
  obtain ⟨h1, _, o, ho, h3⟩ := (ready_iff ha).1 hi
  intro j o' hj ho' e e1 e2
  rw [listed_set (by omega)] at hj ⊢
  rcases hj with rfl | hj
  · rw [ho] at ho'; cases ho'; exact .inr (h3 e e1 e2)
  · exact .inr (hs j o' hj ho' e e1 e2)
theorem listed_none {n i : Nat} : ¬ Listed (Array.replicate n false) i := by
  unfold Listed
  rw [Array.getD_eq_getD_getElem?, Array.getElem?_replicate]
  split <;> simp
/-! ### What the static test says -/
def writes_ (ops : Array Oper) (i : Nat) (t : Tmp) : Prop := ∃ o, ops[i]? = some o ∧ o.dst = some t
structure Sane (ops : Array Oper) : Prop where
  back : ∀ j o, ops[j]? = some o → ∀ e ∈ o.after.toList, Region.binds .any e = true → e.on < j
  names : ∀ j o t i, ops[j]? = some o → t ∈ namesOf ops o → writes_ ops i t → i = j ∨ (i < j ∧ Ahead ops i j) ∨ (j < i ∧ Ahead ops j i)
theorem tmpsOk_sane {ops : Array Oper} (h : tmpsOk ops (Region.before ops) = true) : Sane ops := by
  unfold tmpsOk at h
  rw [List.all_eq_true] at h
  have mem : ∀ {j : Nat} {o : Oper}, ops[j]? = some o → (o, j) ∈ ops.toList.zipIdx := by
    intro j o ho
    rw [List.mem_zipIdx_iff_getElem?]
    simpa using ho
  refine ⟨fun j o ho e he hb => ?_, fun j o t i ho ht ⟨q, hq, hd⟩ => ?_⟩
  · have := h _ (mem ho)
    simp only [Bool.and_eq_true, List.all_eq_true] at this
    have := this.1 e he
    simpa [hb, T.nblt] using this
  · have := h _ (mem ho)
    simp only [Bool.and_eq_true, List.all_eq_true] at this
    have := this.2 t ht _ (mem hq)
    simp only [Bool.or_eq_true, Bool.not_eq_true', beq_eq_false_iff_ne, hd, beq_iff_eq] at this
    rcases this with (h1 | h1) | h1
    · exact absurd rfl h1
    · exact .inl h1
    · rcases Nat.lt_trichotomy i j with hlt | heq | hgt
      · rw [Nat.max_eq_right (Nat.le_of_lt hlt), Nat.min_eq_left (Nat.le_of_lt hlt)] at h1
        exact .inr (.inl ⟨hlt, h1⟩)
      · exact .inl heq
      · rw [Nat.max_eq_left (Nat.le_of_lt hgt), Nat.min_eq_right (Nat.le_of_lt hgt)] at h1
        exact .inr (.inr ⟨hgt, h1⟩)
end Go.X

/-
  A row of operations that may be drawn: what the executor reckons, by itself.
-/
namespace Go.X
variable {P : Program} {m : M} {h : H} {w : World} {call : FuncId → List LV → H → R (LV × H)} {self : Option Nat → Code → St → R (XE × St)}

theorem isBar_true {ops : Array Oper} {j : Nat} (h : isBar (Region.before ops) ops.size j = true) : (∀ i, i < j → Ahead ops i j) ∧ ∀ k, k < ops.size → j < k → Ahead ops j k := by
  unfold isBar at h
  simp only [Bool.and_eq_true] at h
  obtain ⟨h1, h2⟩ := h
  rw [T.nbeq, decide_eq_true_eq] at h1
  refine ⟨fun i hi => ?_, fun k hk hjk => ?_⟩
  · have h3 : Nat.testBit (((Region.before ops).getD j 0) &&& (2 ^ j - 1)) i = Nat.testBit (2 ^ j - 1) i := congrArg (fun x => Nat.testBit x i) h1
    rw [Nat.testBit_and, Nat.testBit_two_pow_sub_one] at h3
    simp only [hi, decide_true, Bool.and_true] at h3
    exact h3
  · rw [List.all_eq_true] at h2
    have := h2 k (by simpa using hk)
    simp only [Bool.or_eq_true] at this
    rcases this with this | this
    · rw [T.nble, decide_eq_true_eq] at this; omega
    · exact this
theorem bars_get (ops : Array Oper) (j : Nat) : (bars ops)[j]? = (ops[j]?).map fun o => (o, isBar (Region.before ops) ops.size j) := by
  unfold bars
  rw [List.getElem?_map, List.getElem?_zipIdx]
  cases ho : ops[j]? <;> simp [ho]
theorem bars_length (ops : Array Oper) : (bars ops).length = ops.size := by simp [bars]
theorem spanQ_spec : ∀ (l : List (Oper × Bool)), l = (spanQ l).1.map (fun o => (o, false)) ++ (spanQ l).2 ∧ ∀ o b, (spanQ l).2.head? = some (o, b) → b = true := by
  intro l
  induction l with
  | nil => exact ⟨rfl, fun o b h => by simp [spanQ] at h⟩
  | cons x l ih =>
    obtain ⟨o, b⟩ := x
    cases b with
    | true => exact ⟨rfl, fun o b h => by simp only [spanQ, List.head?_cons, Option.some.injEq, Prod.mk.injEq] at h; exact h.2.symm⟩
    | false =>
      simp only [spanQ]
      refine ⟨?_, ih.2⟩
      simp only [List.map_cons, List.cons_append]
      rw [← ih.1]
theorem killAll_get : ∀ (l : List Nat) (os : T LO) (i : Nat), (killAll os l).get i = if i ∈ l then some .dead else os.get i := by
  intro l
  induction l with
  | nil => intro os i; simp [killAll]
  | cons a l ih =>
    intro os i
    simp only [killAll]
    rw [ih, T.get_set]
    by_cases h1 : i ∈ l
    · simp [h1]
    · by_cases h2 : i = a
      · simp [h2]
      · simp [h1, h2]
theorem backAll_get (fr : T LO) : ∀ (l : List Nat) (os : T LO) (i : Nat), (backAll fr os l).get i = if i ∈ l then (match fr.get i with | some o => some o | none => os.get i) else os.get i := by
  intro l
  induction l with
  | nil => intro os i; simp [backAll]
  | cons a l ih =>
    intro os i
    simp only [backAll]
    cases ha : fr.get a with
    | none =>
      simp only
      rw [ih]
      by_cases h1 : i ∈ l
      · simp [h1]
      · by_cases h2 : i = a
        · subst h2; simp [h1, ha]
        · simp [h1, h2]
    | some o =>
      simp only
      rw [ih]
      by_cases h1 : i ∈ l
      · rw [if_pos h1, if_pos (by simp [h1])]
        cases hf : fr.get i with
        | some o' => rfl
        | none =>
          simp only
          rw [T.get_set]
          by_cases h2 : i = a
          · subst h2; rw [ha] at hf; cases hf
          · rw [if_neg h2]
      · rw [if_neg h1, T.get_set]
        by_cases h2 : i = a
        · subst h2; rw [if_pos rfl, if_pos (by simp)]; rw [ha]
        · rw [if_neg h2, if_neg (by simp [h1, h2])]
theorem mem_without {ids own : List Nat} {i : Nat} : i ∈ without ids own ↔ i ∈ ids ∧ i ∉ own := by
  unfold without
  rw [List.mem_filter]
  have : (own.any (Nat.beq i)) = true ↔ i ∈ own := by
    rw [List.any_eq_true]
    constructor
    · rintro ⟨x, hx, hb⟩; rw [T.nbeq, decide_eq_true_eq] at hb; subst hb; exact hx
    · intro hx; exact ⟨i, hx, by rw [T.nbeq]; simp⟩
  simp only [Bool.not_eq_true', ← Bool.not_eq_true, this]
theorem apart_spec {n : Nat} : ∀ {l : List Nat}, apartIds n l = true → (∀ i ∈ l, i < n) ∧ l.Nodup := by
  intro l
  induction l with
  | nil => intro _; exact ⟨by simp, by simp⟩
  | cons a l ih =>
    intro h
    simp only [apartIds, Bool.and_eq_true, T.nblt, decide_eq_true_eq, Bool.not_eq_true'] at h
    obtain ⟨⟨h1, h2⟩, h3⟩ := h
    obtain ⟨i1, i2⟩ := ih h3
    refine ⟨fun i hi => ?_, ?_⟩
    · rcases List.mem_cons.1 hi with rfl | hi
      · exact h1
      · exact i1 i hi
    · rw [List.nodup_cons]
      refine ⟨fun hm => ?_, i2⟩
      rw [← Bool.not_eq_true, List.any_eq_true] at h2
      exact h2 ⟨a, hm, by rw [T.nbeq]; simp⟩
theorem mem_owners {j : Nat} {l : List Nat} : ∀ {w : List (List Nat)} {p : Nat}, (j, l) ∈ ownersOf p w ↔ p ≤ j ∧ w[j - p]? = some l ∧ l ≠ [] := by
  intro w
  induction w with
  | nil => intro p; simp [ownersOf]
  | cons a w ih =>
    intro p
    have key : (j, l) ∈ ownersOf (Nat.succ p) w ↔ p + 1 ≤ j ∧ (a :: w)[j - p]? = some l ∧ l ≠ [] := by
      rw [ih]
      constructor
      · rintro ⟨h1, h2, h3⟩
        refine ⟨h1, ?_, h3⟩
        rw [show j - p = (j - (p + 1)) + 1 by omega, List.getElem?_cons_succ]; exact h2
      · rintro ⟨h1, h2, h3⟩
        refine ⟨h1, ?_, h3⟩
        rw [show j - p = (j - (p + 1)) + 1 by omega, List.getElem?_cons_succ] at h2; exact h2
    cases a with
    | nil =>
      simp only [ownersOf]
      rw [key]
      constructor
      · rintro ⟨h1, h2, h3⟩; exact ⟨by omega, h2, h3⟩
      · rintro ⟨h1, h2, h3⟩
        refine ⟨?_, h2, h3⟩
        apply Nat.lt_of_le_of_ne h1
        rintro rfl
        rw [Nat.sub_self, List.getElem?_cons_zero] at h2
        exact h3 (Option.some.inj h2).symm
    | cons x a =>
      simp only [ownersOf, List.mem_cons]
      rw [key, Prod.mk.injEq]
      constructor
      · rintro (⟨rfl, rfl⟩ | ⟨h1, h2, h3⟩)
        · exact ⟨Nat.le_refl _, by simp, by simp⟩
        · exact ⟨by omega, h2, h3⟩
      · rintro ⟨h1, h2, h3⟩
        by_cases hj : j = p
        · subst hj
          rw [Nat.sub_self, List.getElem?_cons_zero] at h2
          exact .inl ⟨rfl, (Option.some.inj h2).symm⟩
        · exact .inr ⟨by omega, h2, h3⟩
theorem mem_visOf {b : Array Nat} {k i : Nat} : ∀ {l : List (Nat × List Nat)}, i ∈ visOf b k l ↔ ∃ x ∈ l, i ∈ x.2 ∧ (x.1 = k ∨ ordB b x.1 k = true) := by
  intro l
  induction l with
  | nil => simp [visOf]
  | cons x r ih =>
    simp only [visOf]
    cases hc : (Nat.beq x.1 k || ordB b x.1 k) with
    | true =>
      simp only [cond_true, List.mem_append, ih]
      rw [Bool.or_eq_true, T.nbeq, decide_eq_true_eq] at hc
      constructor
      · rintro (h | ⟨y, h1, h2⟩)
        · exact ⟨x, by simp, h, hc⟩
        · exact ⟨y, by simp [h1], h2⟩
      · rintro ⟨y, h1, h2, h3⟩
        rcases List.mem_cons.1 h1 with rfl | h1
        · exact .inl h2
        · exact .inr ⟨y, h1, h2, h3⟩
    | false =>
      simp only [cond_false, ih]
      rw [Bool.or_eq_false_iff, T.nbeq, decide_eq_false_iff_not] at hc
      constructor
      · rintro ⟨y, h1, h2⟩; exact ⟨y, by simp [h1], h2⟩
      · rintro ⟨y, h1, h2, h3⟩
        rcases List.mem_cons.1 h1 with rfl | h1
        · rcases h3 with h3 | h3
          · exact absurd h3 hc.1
          · rw [hc.2] at h3; cases h3
        · exact ⟨y, h1, h2, h3⟩
theorem own_vis {b : Array Nat} {p k i : Nat} {w : List (List Nat)} (h : i ∈ (w[k]?).getD []) : i ∈ visOf b (p + k) (ownersOf p w) := by
  cases hw : w[k]? with
  | none => rw [hw] at h; simp at h
  | some l =>
    rw [hw] at h
    simp only [Option.getD_some] at h
    refine mem_visOf.2 ⟨(p + k, l), mem_owners.2 ⟨by omega, by rw [show p + k - p = k by omega]; exact hw, ?_⟩, h, .inl rfl⟩
    rintro rfl; cases h
theorem vis_own {b : Array Nat} {p k i : Nat} {w : List (List Nat)} (h : i ∈ visOf b k (ownersOf p w)) : ∃ j, p ≤ j ∧ j - p < w.length ∧ i ∈ (w[j - p]?).getD [] ∧ (j = k ∨ ordB b j k = true) := by
  obtain ⟨⟨j, l⟩, h1, h2, h3⟩ := mem_visOf.1 h
  obtain ⟨a1, a2, _⟩ := mem_owners.1 h1
  exact ⟨j, a1, (List.getElem?_eq_some_iff.1 a2).1, by rw [a2]; exact h2, h3⟩
/-- One operation, told. -/
def Quiet1 (P : Program) (call : FuncId → List LV → H → R (LV × H)) (self : Option Nat → Code → St → R (XE × St)) (ops : List Oper) (ids own vis : List Nat) (o : Oper) (f : Fr) (h : H) (f' : Fr) (h' : H) : Prop :=
  (guardOk ops f o = true ∧ ∃ v h1, xOper P call self o f ⟨killAll h.objs (without ids vis), h.next, []⟩ = .one (v, h1) ∧ f.putO o.dst v = some f' ∧ (∀ i ∈ h1.log, i < h.next → i ∈ own) ∧ h.next ≤ h1.next ∧
    h' = ⟨backAll h1.objs h.objs (own ++ List.range' h.next (h1.next - h.next)), h1.next, h1.log ++ h.log⟩) ∨
  (guardOk ops f o = false ∧ f.putO o.dst undefL = some f' ∧ h' = h)
theorem quietStep_spec {ops : List Oper} {ids own vis : List Nat} {k : Nat} {o : Oper} {f f' : Fr} {h' : H} (e : quietStep P call self ops ids vis k own o f h = .ok f' h') : Quiet1 P call self ops ids own vis o f h f' h' := by
  unfold quietStep at e
  cases hg : guardOk ops f o with
  | true =>
    simp only [hg, cond_true] at e
    cases hx : xOper P call self o f ⟨killAll h.objs (without ids vis), h.next, []⟩ with
    | no => simp [hx] at e
    | many l => simp [hx] at e
    | one r =>
      obtain ⟨v, h1⟩ := r
      simp only [hx] at e
      cases hp : f.putO o.dst v with
      | none => simp [hp] at e
      | some f1 =>
        simp only [hp] at e
        split at e
        · rename_i hlog
          cases hb : Nat.ble h.next h1.next with
          | false => simp [hb] at e
          | true =>
            simp only [hb, cond_true, Q.ok.injEq] at e
            obtain ⟨rfl, rfl⟩ := e
            refine .inl ⟨hg, v, h1, hx, hp, fun i hi hlt => ?_, by rw [T.nble] at hb; simpa using hb, rfl⟩
            rw [List.filter_eq_nil_iff] at hlog
            have := hlog i hi
            rw [T.nblt] at this
            simp only [hlt, decide_true, Bool.true_and, Bool.not_eq_true', Bool.not_eq_false] at this
            rw [List.any_eq_true] at this
            obtain ⟨x, hx, hb⟩ := this
            rw [T.nbeq, decide_eq_true_eq] at hb; subst hb; exact hx
        · cases e
  | false =>
    simp only [hg, cond_false] at e
    cases hp : f.putO o.dst undefL with
    | none => simp [hp] at e
    | some f1 =>
      simp only [hp, Q.ok.injEq] at e
      obtain ⟨rfl, rfl⟩ := e
      exact .inr ⟨hg, hp, rfl⟩
theorem quietOps_spec {ops : List Oper} {ids : List Nat} {vis : Nat → List Nat} : ∀ (seg : List Oper) (wl : List (List Nat)) (k p : Nat) (f : Fr) (h : H) (f' : Fr) (h' : H), wl.length = seg.length → quietOps P call self ops ids vis k (seg.zip wl) f h = .ok f' h' →
    ∃ (fs : Nat → Fr) (hs : Nat → H), fs p = f ∧ hs p = h ∧ fs (p + seg.length) = f' ∧ hs (p + seg.length) = h' ∧ ∀ j o, seg[j]? = some o → Quiet1 P call self ops ids ((wl[j]?).getD []) (vis (k + j)) o (fs (p + j)) (hs (p + j)) (fs (p + j + 1)) (hs (p + j + 1)) := by
  intro seg
  induction seg with
  | nil =>
    intro wl k p f h f' h' hl e
    simp only [List.zip_nil_left, quietOps, Q.ok.injEq] at e
    obtain ⟨rfl, rfl⟩ := e
    exact ⟨fun _ => f, fun _ => h, rfl, rfl, rfl, rfl, fun j o hj => by simp at hj⟩
  | cons o seg ih =>
    intro wl k p f h f' h' hl e
    cases wl with
    | nil => simp at hl
    | cons own wl =>
      simp only [List.zip_cons_cons, quietOps] at e
      cases hq : quietStep P call self ops ids (vis k) k own o f h with
      | no => simp [hq] at e
      | more a b => simp [hq] at e
      | ok f1 h1 =>
        simp only [hq] at e
        obtain ⟨fs, hs, a1, a2, a3, a4, a5⟩ := ih wl (Nat.succ k) (p + 1) f1 h1 f' h' (by simpa using hl) e
        refine ⟨fun x => if x = p then f else fs x, fun x => if x = p then h else hs x, by simp, by simp, ?_, ?_, fun j q hj => ?_⟩
        · simp only [List.length_cons]; rw [if_neg (by omega), ← a3]; congr 1; omega
        · simp only [List.length_cons]; rw [if_neg (by omega), ← a4]; congr 1; omega
        · cases j with
          | zero =>
            simp only [List.getElem?_cons_zero, Option.some.injEq] at hj; subst hj
            simp only [Nat.add_zero, if_pos, List.getElem?_cons_zero, Option.getD_some]
            rw [if_neg (by omega), if_neg (by omega), a1, a2]
            exact quietStep_spec hq
          | succ j =>
            simp only [List.getElem?_cons_succ] at hj ⊢
            rw [if_neg (by omega), if_neg (by omega), if_neg (by omega), if_neg (by omega)]
            have := a5 j q hj
            rw [show p + (j + 1) = p + 1 + j by omega, show k + (j + 1) = Nat.succ k + j by omega]
            exact this
theorem quietTry_spec {ops seg : List Oper} {b : Array Nat} {p : Nat} {f f' : Fr} {h' : H} : ∀ (n : Nat) (wl : List (List Nat)), quietTry P call self ops seg b p f h n wl = some (f', h') → ∃ wl', apartIds h.next wl'.flatten = true ∧ wl'.length = seg.length ∧ quietOps P call self ops wl'.flatten (fun k => visOf b (p + k) (ownersOf p wl')) 0 (seg.zip wl') f h = .ok f' h' := by
  intro n
  induction n with
  | zero => intro wl e; simp [quietTry] at e
  | succ n ih =>
    intro wl e
    simp only [quietTry] at e
    cases ha : (apartIds h.next wl.flatten && Nat.beq wl.length seg.length) with
    | false => simp [ha] at e
    | true =>
      simp only [ha, cond_true] at e
      simp only [Bool.and_eq_true, T.nbeq, decide_eq_true_eq] at ha
      cases hq : quietOps P call self ops wl.flatten (fun k => visOf b (p + k) (ownersOf p wl)) 0 (seg.zip wl) f h with
      | no => simp [hq] at e
      | more a b => (try simp only [hq] at e); exact ih _ e
      | ok f1 h1 =>
        (try simp only [hq] at e); simp only [Option.some.injEq, Prod.mk.injEq] at e
        obtain ⟨rfl, rfl⟩ := e
        exact ⟨wl, ha.1, ha.2, hq⟩
end Go.X

/-
  A row of operations that may be drawn: what is true while some of them have been run.
-/
namespace Go.X
variable {P : Program} {m : M} {h : H} {w : World} {call : FuncId → List LV → H → R (LV × H)} {self : Option Nat → Code → St → R (XE × St)}

def M.upto (m : M) (n : Nat) : M := fun i => if i < n then m i else none
theorem M.upto_le (m : M) {a b : Nat} (h : a ≤ b) : (m.upto a).le (m.upto b) := by
  intro i x hx
  unfold M.upto at hx ⊢
  by_cases hi : i < a
  · rw [if_pos hi] at hx; rw [if_pos (by omega)]; exact hx
  · rw [if_neg hi] at hx; cases hx
theorem M.upto_mono {m m' : M} (h : m.le m') (n : Nat) : (m.upto n).le (m'.upto n) := by
  intro i x hx
  unfold M.upto at hx ⊢
  by_cases hi : i < n
  · rw [if_pos hi] at hx ⊢; exact h _ _ hx
  · rw [if_neg hi] at hx; cases hx
theorem M.upto_some {m : M} {n i : Nat} {x : Nat × Nat × Nat} (h : m.upto n i = some x) : i < n ∧ m i = some x := by
  unfold M.upto at h
  by_cases hi : i < n
  · rw [if_pos hi] at h; exact ⟨hi, h⟩
  · rw [if_neg hi] at h; cases h
theorem M.upto_lt (m : M) {n i : Nat} (h : i < n) : m.upto n i = m i := by unfold M.upto; rw [if_pos h]
theorem H.get_mk (os : T LO) (n : Nat) (l : List Nat) (i : Nat) : (H.mk os n l).get i = os.get i := rfl

/-- The heap that an operation runs on: what the others write is taken away. -/
noncomputable def bare (ids own : List Nat) (h : H) : H := ⟨killAll h.objs (without ids own), h.next, []⟩
theorem bare_get (ids own : List Nat) (h : H) (i : Nat) : (bare ids own h).get i = if i ∈ ids ∧ i ∉ own then some .dead else h.get i := by
  unfold bare
  rw [H.get_mk, killAll_get]
  simp only [mem_without]
  rfl
/-- What one operation has done, by itself. -/
structure Ran (own : List Nat) (o : Oper) (f : Fr) (h : H) (f' : Fr) (h' : H) (v : LV) (h1 : H) : Prop where
  next : h1.next = h'.next
  le : h.next ≤ h'.next
  put : f.putO o.dst v = some f'
  log : ∀ i, i ∈ h1.log → i < h.next → i ∈ own
  logs : ∀ i, i ∈ h1.log → i ∈ h'.log
  keep : ∀ i, i ∈ h.log → i ∈ h'.log
  in_ : ∀ i, (i ∈ own ∨ (h.next ≤ i ∧ i < h'.next)) → h'.get i = (match h1.get i with | some o => some o | none => h.get i)
  out : ∀ i, ¬ (i ∈ own ∨ (h.next ≤ i ∧ i < h'.next)) → h'.get i = h.get i
theorem quiet_ran {ops : List Oper} {ids own vis : List Nat} {o : Oper} {f f' : Fr} {h' : H} (hov : ∀ i ∈ own, i ∈ vis) (q : Quiet1 P call self ops ids own vis o f h f' h') :
    (guardOk ops f o = true ∧ ∃ v h1, xOper P call self o f (bare ids vis h) = .one (v, h1) ∧ Ran own o f h f' h' v h1) ∨ (guardOk ops f o = false ∧ Ran own o f h f' h' undefL (bare ids vis h)) := by
  rcases q with ⟨g, v, h1, hx, hp, hl, hn, rfl⟩ | ⟨g, hp, rfl⟩
  · refine .inl ⟨g, v, h1, hx, rfl, hn, hp, hl, fun i hi => List.mem_append_left _ hi, fun i hi => List.mem_append_right _ hi, fun i hi => ?_, fun i hi => ?_⟩
    · rw [H.get_mk, backAll_get]
      have : i ∈ own ++ List.range' h.next (h1.next - h.next) := by
        rw [List.mem_append, List.mem_range'_1]
        rcases hi with hi | ⟨a, b⟩
        · exact .inl hi
        · exact .inr ⟨a, by simp only at b; omega⟩
      rw [if_pos this]; rfl
    · rw [H.get_mk, backAll_get]
      have : ¬ i ∈ own ++ List.range' h.next (h1.next - h.next) := by
        rw [List.mem_append, List.mem_range'_1]
        rintro (a | ⟨a, b⟩)
        · exact hi (.inl a)
        · exact hi (.inr ⟨a, by simp only; omega⟩)
      rw [if_neg this]; rfl
  · refine .inr ⟨g, rfl, Nat.le_refl _, hp, fun i hi => by simp [bare] at hi, fun i hi => by simp [bare] at hi, fun i hi => hi, fun i hi => ?_, fun i _ => rfl⟩
    rcases hi with hi | ⟨a, b⟩
    · rw [bare_get, if_neg (fun x => x.2 (hov i hi))]
      cases h'.get i <;> rfl
    · omega
/-- A row's own facts. -/
structure Row (ops : Array Oper) (ids : List Nat) (p q : Nat) (own vis : Nat → List Nat) (fs : Nat → Fr) (hs : Nat → H) : Prop where
  sane : Sane ops
  ran : ∀ k o, p ≤ k → k < q → ops[k]? = some o → ∃ v h1, Ran (own k) o (fs k) (hs k) (fs (k + 1)) (hs (k + 1)) v h1
  op : ∀ k, p ≤ k → k < q → ∃ o, ops[k]? = some o
  ids : ∀ i, i ∈ ids ↔ ∃ k, p ≤ k ∧ k < q ∧ i ∈ own k
  lt : ∀ k i, p ≤ k → k < q → i ∈ own k → i < (hs p).next
  once : ∀ k k' i, p ≤ k → k < q → p ≤ k' → k' < q → i ∈ own k → i ∈ own k' → k = k'
  wf : ∀ i, (hs p).next ≤ i → (hs p).get i = none
  ownVis : ∀ k i, p ≤ k → k < q → i ∈ own k → i ∈ vis k
  visOrd : ∀ k i, p ≤ k → k < q → i ∈ vis k → i ∈ own k ∨ ∃ j, p ≤ j ∧ j < q ∧ i ∈ own j ∧ (Ahead ops j k ∨ Ahead ops k j)
section
variable {ops : Array Oper} {ids : List Nat} {p q : Nat} {own vis : Nat → List Nat} {fs : Nat → Fr} {hs : Nat → H}
def touch (own : Nat → List Nat) (hs : Nat → H) (i k : Nat) : Prop := i ∈ own k ∨ ((hs k).next ≤ i ∧ i < (hs (k + 1)).next)
theorem Row.mono (r : Row ops ids p q own vis fs hs) : ∀ b a, p ≤ a → a ≤ b → b ≤ q → (hs a).next ≤ (hs b).next := by
  intro b
  induction b with
  | zero => intro a h1 h2 h3; rw [show a = 0 by omega]; exact Nat.le_refl _
  | succ b ih =>
    intro a h1 h2 h3
    by_cases hab : a = b + 1
    · subst hab; exact Nat.le_refl _
    · obtain ⟨o, ho⟩ := r.op b (by omega) (by omega)
      obtain ⟨v, h1', rr⟩ := r.ran b o (by omega) (by omega) ho
      exact Nat.le_trans (ih a h1 (by omega) (by omega)) rr.le
theorem Row.get (r : Row ops ids p q own vis fs hs) {i : Nat} : ∀ b a, p ≤ a → a ≤ b → b ≤ q → (∀ k, a ≤ k → k < b → ¬ touch own hs i k) → (hs b).get i = (hs a).get i := by
  intro b
  induction b with
  | zero => intro a h1 h2 h3 _; rw [show a = 0 by omega]
  | succ b ih =>
    intro a h1 h2 h3 ht
    by_cases hab : a = b + 1
    · subst hab; rfl
    · obtain ⟨o, ho⟩ := r.op b (by omega) (by omega)
      obtain ⟨v, h1', rr⟩ := r.ran b o (by omega) (by omega) ho
      rw [rr.out i (ht b (by omega) (by omega)), ih a h1 (by omega) (by omega) fun k h4 h5 => ht k h4 (by omega)]
theorem Row.log (r : Row ops ids p q own vis fs hs) {i : Nat} : ∀ b a, p ≤ a → a ≤ b → b ≤ q → i ∈ (hs a).log → i ∈ (hs b).log := by
  intro b
  induction b with
  | zero => intro a h1 h2 h3 h; rw [show 0 = a by omega]; exact h
  | succ b ih =>
    intro a h1 h2 h3 h
    by_cases hab : a = b + 1
    · subst hab; exact h
    · obtain ⟨o, ho⟩ := r.op b (by omega) (by omega)
      obtain ⟨v, h1', rr⟩ := r.ran b o (by omega) (by omega) ho
      exact rr.keep i (ih a h1 (by omega) (by omega) h)
theorem Row.one (r : Row ops ids p q own vis fs hs) {i k k' : Nat} (h1 : p ≤ k) (h2 : k < q) (h3 : p ≤ k') (h4 : k' < q) (a : touch own hs i k) (b : touch own hs i k') : k = k' := by
  rcases a with a | ⟨a1, a2⟩
  · rcases b with b | ⟨b1, b2⟩
    · exact r.once k k' i h1 h2 h3 h4 a b
    · have := r.lt k i h1 h2 a
      have := r.mono k' p (Nat.le_refl _) h3 (by omega)
      omega
  · rcases b with b | ⟨b1, b2⟩
    · have := r.lt k' i h3 h4 b
      have := r.mono k p (Nat.le_refl _) h1 (by omega)
      omega
    · rcases Nat.lt_trichotomy k k' with hlt | heq | hgt
      · have := r.mono k' (k + 1) (by omega) (by omega) (by omega); omega
      · exact heq
      · have := r.mono k (k' + 1) (by omega) (by omega) (by omega); omega
theorem Row.frame (r : Row ops ids p q own vis fs hs) {t : Tmp} : ∀ b a, p ≤ a → a ≤ b → b ≤ q → (∀ k, a ≤ k → k < b → ¬ writes_ ops k t) → (fs b).get t = (fs a).get t := by
  intro b
  induction b with
  | zero => intro a h1 h2 h3 _; rw [show a = 0 by omega]
  | succ b ih =>
    intro a h1 h2 h3 ht
    by_cases hab : a = b + 1
    · subst hab; rfl
    · obtain ⟨o, ho⟩ := r.op b (by omega) (by omega)
      obtain ⟨v, h1', rr⟩ := r.ran b o (by omega) (by omega) ho
      have hn := ht b (by omega) (by omega)
      rw [← ih a h1 (by omega) (by omega) fun k h4 h5 => ht k h4 (by omega)]
      have hp := rr.put
      cases hd : o.dst with
      | none => rw [hd] at hp; simp [Fr.putO] at hp; rw [hp]
      | some d =>
        rw [hd] at hp
        obtain ⟨_, he⟩ := putO_some hp
        rw [he]
        simp only [Fr.get]
        rw [T.get_set, if_neg]
        rintro rfl
        exact hn ⟨o, ho, hd⟩
theorem Row.sz (r : Row ops ids p q own vis fs hs) : ∀ b, p ≤ b → b ≤ q → (fs b).sz = (fs p).sz := by
  intro b
  induction b with
  | zero => intro h1 _; rw [show p = 0 by omega]
  | succ b ih =>
    intro h1 h2
    by_cases hab : p = b + 1
    · subst hab; rfl
    · obtain ⟨o, ho⟩ := r.op b (by omega) (by omega)
      obtain ⟨v, h1', rr⟩ := r.ran b o (by omega) (by omega) ho
      rw [← ih (by omega) (by omega)]
      have hp := rr.put
      cases hd : o.dst with
      | none => rw [hd] at hp; simp [Fr.putO] at hp; rw [hp]
      | some d =>
        rw [hd] at hp
        obtain ⟨_, he⟩ := putO_some hp
        rw [he]
/-- Is an object there, and not given up, as far as the listed operations go? -/
def Live (own : Nat → List Nat) (hs : Nat → H) (p : Nat) (L : Nat → Prop) (i : Nat) : Prop :=
  (∃ k, L k ∧ touch own hs i k ∧ (hs (k + 1)).get i ≠ some .dead) ∨ ((∀ k, L k → ¬ touch own hs i k) ∧ (hs p).get i ≠ some .dead)
structure Inv (ops : Array Oper) (p q : Nat) (own : Nat → List Nat) (fs : Nat → Fr) (hs : Nat → H) (L : Nat → Prop) (m0 : M) (w0 : World) (m : M) (a : Act) (w : World) : Prop where
  rng : ∀ k, L k → p ≤ k ∧ k < q
  dom : ∀ i, m i ≠ none → i < (hs p).next ∨ ∃ k, L k ∧ (hs k).next ≤ i ∧ i < (hs (k + 1)).next
  old : ∀ i, i < (hs p).next → m i = m0 i
  sz : a.tmps.size = (fs p).sz
  tm : ∀ t k, p ≤ k → k ≤ q → (∀ j, p ≤ j → j < k → writes_ ops j t → L j) → (∀ j, k ≤ j → j < q → writes_ ops j t → ¬ L j) → VR (m.upto (hs k).next) ((fs k).get t) (a.tmps.getD t undef)
  ob1 : ∀ i b d n k, m i = some (b, d, n) → L k → touch own hs i k → ∃ o, (hs (k + 1)).get i = some o ∧ OR (m.upto (hs (k + 1)).next) w o b d n
  ob0 : ∀ i b d n, m i = some (b, d, n) → (∀ k, L k → ¬ touch own hs i k) → ∃ o, (hs p).get i = some o ∧ OR (m.upto (hs p).next) w o b d n
  blk : ∀ i b d n, m i = some (b, d, n) → b < w.heap.size
  inj : ∀ i j b d n d' n', m i = some (b, d, n) → m j = some (b, d', n') → Live own hs p L i → Live own hs p L j → i = j
  size : w0.heap.size ≤ w.heap.size
  os : w.os = w0.os
  tape : w.tape = w0.tape
  output : w.output = w0.output
  frame : ∀ b, b < w0.heap.size → (∀ i d n, m0 i = some (b, d, n) → i < (hs p).next → i ∈ (hs q).log → (hs p).get i = some .dead) → w.heap[b]? = w0.heap[b]?
  fresh : ∀ i b d n, m i = some (b, d, n) → (hs p).next ≤ i → w0.heap.size ≤ b ∨ ∃ j d0 n0, j < (hs p).next ∧ m0 j = some (b, d0, n0) ∧ j ∈ (hs q).log ∧ (hs p).get j ≠ some .dead
  dead : ∀ i k, L k → i ∈ own k → (hs p).get i = some .dead → (hs (k + 1)).get i = some .dead
  same : ∀ i k, L k → i ∈ own k → i ∉ (hs q).log → (hs (k + 1)).get i = (hs p).get i
end
end Go.X

/-
  A row of operations that may be drawn: one more is run.
-/
namespace Go.X
variable {P : Program} {m m0 : M} {w w0 : World} {ops : Array Oper} {ids : List Nat} {p q : Nat} {own vis : Nat → List Nat} {fs : Nat → Fr} {hs : Nat → H} {L : Nat → Prop} {a : Act}

/-- What an operation sees of an object is what the listed ones have left. -/
theorem ahead_lt (hs : Sane ops) : ∀ (j i : Nat), Ahead ops i j → i < j := by
  intro j
  induction j using Nat.strongRecOn with
  | _ j ih =>
    intro i h
    obtain ⟨o, ho, e, he, hb, h1⟩ := ahead_step h
    have hlt := hs.back j o ho e he hb
    rcases h1 with rfl | ⟨_, h2⟩
    · exact hlt
    · exact Nat.lt_trans (ih e.on hlt i h2) hlt
theorem Inv.sees (r : Row ops ids p q own vis fs hs) (v : Inv ops p q own fs hs L m0 w0 m a w) {k : Nat} (hk : p ≤ k) (hkq : k < q) (hL : ¬ L k) (hord : (∀ j, p ≤ j → j < q → Ahead ops j k → L j) ∧ (∀ j, L j → ¬ Ahead ops k j)) {i : Nat} (hi : i < (hs k).next) (hm : m i ≠ none) (hn : ¬ (i ∈ ids ∧ i ∉ vis k)) :
    (∃ k', L k' ∧ touch own hs i k' ∧ k' < k ∧ (hs (k' + 1)).get i = (hs k).get i) ∨ ((∀ k', L k' → ¬ touch own hs i k') ∧ (hs p).get i = (hs k).get i) := by
  have see : ∀ j, p ≤ j → j < q → i ∈ own j → j = k ∨ Ahead ops j k ∨ Ahead ops k j := by
    intro j j1 j2 j3
    have hv : i ∈ vis k := Classical.byContradiction fun hno => hn ⟨(r.ids i).2 ⟨j, j1, j2, j3⟩, hno⟩
    rcases r.visOrd k i hk hkq hv with ho | ⟨j', a1, a2, a3, a4⟩
    · exact .inl (r.once j k i j1 j2 hk hkq j3 ho)
    · have := r.once j j' i j1 j2 a1 a2 j3 a3
      subst this; exact .inr a4
  by_cases ht : ∃ k', L k' ∧ touch own hs i k'
  · obtain ⟨k', hL', ht'⟩ := ht
    obtain ⟨r1, r2⟩ := v.rng k' hL'
    left
    have hlt : k' < k := by
      rcases ht' with ho | ⟨n1, n2⟩
      · rcases see k' r1 r2 ho with rfl | h1 | h1
        · exact absurd hL' hL
        · exact ahead_lt r.sane _ _ h1
        · exact absurd h1 (hord.2 k' hL')
      · apply Nat.lt_of_not_le
        intro hle
        have := r.mono k' k hk hle (by omega)
        omega
    refine ⟨k', hL', ht', hlt, (r.get k (k' + 1) (by omega) (by omega) (by omega) fun j j1 j2 hj => ?_).symm⟩
    have := r.one r1 r2 (by omega) (by omega) ht' hj
    omega
  · right
    refine ⟨fun k' h1 h2 => ht ⟨k', h1, h2⟩, (r.get k p (Nat.le_refl _) hk (by omega) fun j j1 j2 hj => ?_).symm⟩
    rcases hj with ho | ⟨n1, n2⟩
    · rcases see j j1 (by omega) ho with h1 | h1 | h1
      · omega
      · exact ht ⟨j, hord.1 j j1 (by omega) h1, .inl ho⟩
      · have := ahead_lt r.sane _ _ h1; omega
    · rcases v.dom i hm with hlt | ⟨k', h1, h2, h3⟩
      · have := r.mono j p (Nat.le_refl _) j1 (by omega); omega
      · exact ht ⟨k', h1, .inr ⟨h2, h3⟩⟩
theorem Inv.live (r : Row ops ids p q own vis fs hs) (v : Inv ops p q own fs hs L m0 w0 m a w) {k : Nat} (hk : p ≤ k) (hkq : k < q) (hL : ¬ L k) (hord : (∀ j, p ≤ j → j < q → Ahead ops j k → L j) ∧ (∀ j, L j → ¬ Ahead ops k j)) {i : Nat} (hi : i < (hs k).next) (hm : m i ≠ none) (hd : (bare ids (vis k) (hs k)).get i ≠ some .dead) : Live own hs p L i := by
  rw [bare_get] at hd
  by_cases hn : i ∈ ids ∧ i ∉ vis k
  · rw [if_pos hn] at hd; exact absurd rfl hd
  · rw [if_neg hn] at hd
    rcases v.sees r hk hkq hL hord hi hm hn with ⟨k', h1, h2, _, h3⟩ | ⟨h1, h2⟩
    · exact .inl ⟨k', h1, h2, by rw [h3]; exact hd⟩
    · exact .inr ⟨h1, by rw [h2]; exact hd⟩
theorem Inv.heap (r : Row ops ids p q own vis fs hs) (v : Inv ops p q own fs hs L m0 w0 m a w) {k : Nat} (hk : p ≤ k) (hkq : k < q) (hL : ¬ L k) (hord : (∀ j, p ≤ j → j < q → Ahead ops j k → L j) ∧ (∀ j, L j → ¬ Ahead ops k j)) : HR (m.upto (hs k).next) (bare ids (vis k) (hs k)) w where
  wf i hi := by
    have hi' : (hs k).next ≤ i := hi
    have hp := r.mono k p (Nat.le_refl _) hk (by omega)
    rw [bare_get, if_neg]
    · rw [r.get k p (Nat.le_refl _) hk (by omega) fun j j1 j2 hj => ?_]
      · exact r.wf i (by omega)
      · have hj1 := r.mono k (j + 1) (by omega) (by omega) (by omega)
        rcases hj with ho | ⟨n1, n2⟩
        · have := r.lt j i j1 (by omega) ho; omega
        · omega
    · rintro ⟨h1, _⟩
      obtain ⟨j, j1, j2, j3⟩ := (r.ids i).1 h1
      have := r.lt j i j1 j2 j3; omega
  obj i b d n hm _ := by
    obtain ⟨hi, hm⟩ := M.upto_some hm
    rw [bare_get]
    by_cases hn : i ∈ ids ∧ i ∉ vis k
    · rw [if_pos hn]; exact ⟨.dead, rfl, trivial⟩
    · rw [if_neg hn]
      rcases v.sees r hk hkq hL hord hi (by rw [hm]; simp) hn with ⟨k', h1, h2, h3, h4⟩ | ⟨h1, h2⟩
      · obtain ⟨o, o1, o2⟩ := v.ob1 i b d n k' hm h1 h2
        obtain ⟨r1, r2⟩ := v.rng k' h1
        refine ⟨o, by rw [← h4]; exact o1, o2.mono (M.upto_le m (r.mono k (k' + 1) (by omega) (by omega) (by omega))) rfl⟩
      · obtain ⟨o, o1, o2⟩ := v.ob0 i b d n hm h1
        exact ⟨o, by rw [← h2]; exact o1, o2.mono (M.upto_le m (r.mono k p (Nat.le_refl _) hk (by omega))) rfl⟩
  blk i b d n hm := v.blk i b d n (M.upto_some hm).2
  inj i j b d n d' n' h1 h2 _ _ h3 h4 := by
    obtain ⟨i1, i2⟩ := M.upto_some h1
    obtain ⟨j1, j2⟩ := M.upto_some h2
    exact v.inj i j b d n d' n' i2 j2 (v.live r hk hkq hL hord i1 (by rw [i2]; simp) h3) (v.live r hk hkq hL hord j1 (by rw [j2]; simp) h4)
  park i j b d n d' n' h1 h2 _ h3 := by
    have := (M.upto_some h2).1
    have h3' : (hs k).next ≤ j := h3
    omega
theorem tight_upto (k : Nat) : Tight (m.upto (hs k).next) (bare ids (vis k) (hs k)) := by
  intro i hi
  have hi' : (hs k).next ≤ i := hi
  unfold M.upto
  rw [if_neg (by omega)]
theorem eval_EvR (v : Inv ops p q own fs hs L m0 w0 m a w) {k : Nat} (hk : p ≤ k) (hkq : k < q) (hL : ¬ L k) {o : Oper}
    (hdep : ∀ t ∈ namesOf ops o, ∀ j, writes_ ops j t → p ≤ j → j < q → (j < k → L j) ∧ (k < j → ¬ L j)) {t : Tmp} (ht : t ∈ namesOf ops o) : VR (m.upto (hs k).next) ((fs k).get t) (a.tmps.getD t undef) :=
  v.tm t k hk (by omega) (fun j j1 j2 hj => (hdep t ht j hj j1 (by omega)).1 j2) (fun j j1 j2 hj => by
    by_cases hjk : j = k
    · subst hjk; exact hL
    · exact (hdep t ht j hj (by omega) j2).2 (by omega))
/-- With one more map. -/
def M.join (m m' : M) (a b : Nat) : M := fun i => if a ≤ i ∧ i < b then m' i else m i
theorem Inv.step (r : Row ops ids p q own vis fs hs) (v : Inv ops p q own fs hs L m0 w0 m a w) {k : Nat} (hk : p ≤ k) (hkq : k < q) (hL : ¬ L k) (hord : (∀ j, p ≤ j → j < q → Ahead ops j k → L j) ∧ (∀ j, L j → ¬ Ahead ops k j)) {o : Oper} (ho : ops[k]? = some o)
    (hdep : ∀ t ∈ namesOf ops o, ∀ j, writes_ ops j t → p ≤ j → j < q → (j < k → L j) ∧ (k < j → ¬ L j)) {x : LV} {h1 : H} (ran : Ran (own k) o (fs k) (hs k) (fs (k + 1)) (hs (k + 1)) x h1)
    {m' : M} {w' : World} {V : Value} (st : Step (m.upto (hs k).next) (bare ids (vis k) (hs k)) w m' h1 w') (hv : VR m' x V) :
    Inv ops p q own fs hs (fun j => L j ∨ j = k) m0 w0 (m.join m' (hs k).next (hs (k + 1)).next) (a.put o.dst V) w' := by
  have hNp : (hs p).next ≤ (hs k).next := r.mono k p (Nat.le_refl _) hk (by omega)
  have hN1 : (hs k).next ≤ (hs (k + 1)).next := ran.le
  have hNq : (hs (k + 1)).next ≤ (hs q).next := r.mono q (k + 1) (by omega) (by omega) (by omega)
  have bn : (bare ids (vis k) (hs k)).next = (hs k).next := rfl
  have lo : ∀ i, i < (hs k).next → m' i = m i := fun i hi => by rw [st.mle i (.inl hi), M.upto_lt m hi]
  have hi_ : ∀ i, (hs (k + 1)).next ≤ i → m' i = none := fun i hi => by
    rw [st.mle i (.inr (by rw [ran.next]; exact hi))]; unfold M.upto; rw [if_neg (by omega)]
  have jn_out : ∀ i, ¬ ((hs k).next ≤ i ∧ i < (hs (k + 1)).next) → m.join m' (hs k).next (hs (k + 1)).next i = m i := fun i hi => by unfold M.join; rw [if_neg hi]
  have jn_in : ∀ i, i < (hs (k + 1)).next → m.join m' (hs k).next (hs (k + 1)).next i = m' i := fun i hi => by
    unfold M.join
    by_cases h2 : (hs k).next ≤ i
    · rw [if_pos ⟨h2, hi⟩]
    · rw [if_neg (fun x => h2 x.1), lo i (by omega)]
  have up : (m.join m' (hs k).next (hs (k + 1)).next).upto (hs (k + 1)).next = m' := by
    funext i
    unfold M.upto
    by_cases h2 : i < (hs (k + 1)).next
    · rw [if_pos h2, jn_in i h2]
    · rw [if_neg h2, hi_ i (by omega)]
  have newnone : ∀ i, (hs k).next ≤ i → i < (hs (k + 1)).next → m i = none := by
    intro i h2 h3
    apply Classical.byContradiction
    intro hne
    rcases v.dom i hne with hlt | ⟨k', a1, a2, a3⟩
    · omega
    · obtain ⟨r1, r2⟩ := v.rng k' a1
      have := r.one r1 r2 hk hkq (.inr ⟨a2, a3⟩) (.inr ⟨h2, h3⟩)
      subst this; exact hL a1
  have le : m.le (m.join m' (hs k).next (hs (k + 1)).next) := by
    intro i y hy
    rw [jn_out i]
    · exact hy
    · rintro ⟨h2, h3⟩; rw [newnone i h2 h3] at hy; cases hy
  have untouched : ∀ i, ¬ touch own hs i k → m.join m' (hs k).next (hs (k + 1)).next i = m i := fun i hi => jn_out i fun x => hi (.inr x)
  have tlt : ∀ i, touch own hs i k → i < (hs (k + 1)).next := by
    rintro i (ho | ⟨_, h2⟩)
    · have := r.lt k i hk hkq ho; omega
    · exact h2
  have logk : ∀ i, i ∈ h1.log → i ∈ (hs q).log := fun i hi => r.log q (k + 1) (by omega) (by omega) (Nat.le_refl _) (ran.logs i hi)
  -- an object that another operation, or none, has touched
  have block : ∀ i b d n, m i = some (b, d, n) → Live own hs p L i → ¬ touch own hs i k → w'.heap[b]? = w.heap[b]? := by
    intro i b d n hm hl hnt
    refine st.frame b (v.blk i b d n hm) fun i' d' n' hm' hi' hlog => ?_
    obtain ⟨i1, i2⟩ := M.upto_some hm'
    apply Classical.byContradiction
    intro hne
    have hl' := v.live r hk hkq hL hord i1 (by rw [i2]; simp) hne
    have := v.inj i' i b d' n' d n i2 hm hl' hl
    subst this
    exact hnt (.inl (ran.log i' hlog i1))
  have seen : ∀ i, i ∈ own k → (bare ids (vis k) (hs k)).get i = (hs p).get i := by
    intro i hi
    rw [bare_get, if_neg (fun x => x.2 (r.ownVis k i hk hkq hi))]
    exact r.get k p (Nat.le_refl _) hk (by omega) fun j j1 j2 hj => by
      have := r.one j1 (by omega) hk hkq hj (.inl hi); omega
  have liveOf : ∀ i, ¬ touch own hs i k → Live own hs p (fun j => L j ∨ j = k) i → Live own hs p L i := by
    rintro i hnt (⟨k', hk' | rfl, h2, h3⟩ | ⟨h2, h3⟩)
    · exact .inl ⟨k', hk', h2, h3⟩
    · exact absurd h2 hnt
    · exact .inr ⟨fun k' h4 => h2 k' (.inl h4), h3⟩
  have live1 : ∀ i b d n, touch own hs i k → m.join m' (hs k).next (hs (k + 1)).next i = some (b, d, n) → Live own hs p (fun j => L j ∨ j = k) i → m' i = some (b, d, n) ∧ h1.get i ≠ some .dead := by
    intro i b d n ht hm hl
    have hil := tlt i ht
    rw [jn_in i hil] at hm
    refine ⟨hm, fun hd => ?_⟩
    have hg := ran.in_ i ht
    rw [hd] at hg
    rcases hl with ⟨k', hk' | rfl, h2, h3⟩ | ⟨h2, h3⟩
    · obtain ⟨r1, r2⟩ := v.rng k' hk'
      have := r.one r1 r2 hk hkq h2 ht
      subst this; exact hL hk'
    · exact h3 hg
    · exact h2 k (.inr rfl) ht
  -- one touched, the other not
  have apart : ∀ i j b d n d' n', touch own hs i k → ¬ touch own hs j k → m' i = some (b, d, n) → h1.get i ≠ some .dead → m j = some (b, d', n') → Live own hs p L j → False := by
    intro i j b d n d' n' hti htj hmi hdi hmj hlj
    have key : ∀ i', i' < (hs k).next → ∀ d2 n2, m i' = some (b, d2, n2) → (bare ids (vis k) (hs k)).get i' ≠ some .dead → i' ∈ own k → False := by
      intro i' hlt d2 n2 hm2 hd2 hown
      have := v.inj i' j b d2 n2 d' n' hm2 hmj (v.live r hk hkq hL hord hlt (by rw [hm2]; simp) hd2) hlj
      subst this; exact htj (.inl hown)
    rcases hti with hown | ⟨n1, n2⟩
    · have hlt : i < (hs k).next := by have := r.lt k i hk hkq hown; omega
      refine key i hlt d n (by rw [← lo i hlt]; exact hmi) (fun hd => hdi (st.dead i hlt hd)) hown
    · rcases st.fresh i b d n hmi n1 (by rw [ran.next]; exact n2) with hge | ⟨j', d0, n0, j1, j2, j3, j4⟩
      · have := v.blk j b d' n' hmj; omega
      · have j1' : j' < (hs k).next := j1
        exact key j' j1' d0 n0 (M.upto_some j2).2 j4 (ran.log j' j3 j1')
  refine ⟨?_, ?_, ?_, ?_, ?_, ?_, ?_, ?_, ?_, Nat.le_trans v.size st.size, st.os.trans v.os, st.tape.trans v.tape, st.output.trans v.output, ?_, ?_, ?_, ?_⟩
  · rintro j (hj | rfl)
    · exact v.rng j hj
    · exact ⟨hk, hkq⟩
  · intro i hm
    by_cases h2 : (hs k).next ≤ i ∧ i < (hs (k + 1)).next
    · exact .inr ⟨k, .inr rfl, h2⟩
    · rw [jn_out i h2] at hm
      rcases v.dom i hm with hlt | ⟨k', a1, a2⟩
      · exact .inl hlt
      · exact .inr ⟨k', .inl a1, a2⟩
  · intro i hi; rw [jn_out i (by omega)]; exact v.old i hi
  · rw [← v.sz]; cases o.dst <;> simp [Act.put]
  · intro t b hb hbq c1 c2
    by_cases hd : o.dst = some t
    · have hwk : writes_ ops k t := ⟨o, ho, hd⟩
      have hkb : k < b := by
        apply Nat.lt_of_not_le
        intro hle
        exact c2 k hle hkq hwk (.inr rfl)
      have hft : (fs b).get t = (fs (k + 1)).get t := r.frame b (k + 1) (by omega) (by omega) hbq fun j j1 j2 hj => by
        have htn : t ∈ namesOf ops o := by unfold namesOf; simp [hd]
        rcases c1 j (by omega) j2 hj with hLj | hjk
        · exact (hdep t htn j hj (by omega) (by omega)).2 (by omega) hLj
        · omega
      have hp := ran.put
      rw [hd] at hp
      obtain ⟨hlt, he⟩ := putO_some hp
      have e1 : (fs (k + 1)).get t = x := by rw [he]; simp only [Fr.get]; rw [T.get_set, if_pos rfl]; rfl
      have hsz : t < a.tmps.size := by rw [v.sz, ← r.sz k hk (by omega)]; exact hlt
      have e2 : (a.put o.dst V).tmps.getD t undef = V := by rw [hd]; simp [Act.put, Array.getD, hsz]
      rw [hft, e1, e2]
      have hle := M.upto_le (m.join m' (hs k).next (hs (k + 1)).next) (r.mono b (k + 1) (by omega) (by omega) hbq)
      rw [up] at hle
      exact hv.mono hle
    · have e2 : (a.put o.dst V).tmps.getD t undef = a.tmps.getD t undef := by
        cases hdd : o.dst with
        | none => rfl
        | some d =>
          have hne : d ≠ t := by rintro rfl; exact hd hdd
          simp only [Act.put, Array.getD_eq_getD_getElem?]
          rw [Array.getElem?_setIfInBounds_ne hne]
      rw [e2]
      have hnw : ∀ j, writes_ ops j t → j ≠ k := by
        rintro j ⟨o', ho', hd'⟩ rfl
        rw [ho] at ho'; cases ho'; exact hd hd'
      refine (v.tm t b hb hbq (fun j j1 j2 hj => (c1 j j1 j2 hj).resolve_right (hnw j hj)) (fun j j1 j2 hj hLj => c2 j j1 j2 hj (.inl hLj))).mono (M.upto_mono le _)
  · rintro i b d n k' hm (hLk | rfl) ht
    · obtain ⟨r1, r2⟩ := v.rng k' hLk
      have hnt : ¬ touch own hs i k := fun h2 => by
        have := r.one r1 r2 hk hkq ht h2
        subst this; exact hL hLk
      rw [untouched i hnt] at hm
      obtain ⟨o1, a1, a2⟩ := v.ob1 i b d n k' hm hLk ht
      refine ⟨o1, a1, ?_⟩
      by_cases hdd : o1 = .dead
      · subst hdd; trivial
      · exact a2.mono (M.upto_mono le _) (block i b d n hm (.inl ⟨k', hLk, ht, by rw [a1]; simpa using hdd⟩) hnt)
    · have hil := tlt i ht
      rw [jn_in i hil] at hm
      obtain ⟨o1, a1, a2⟩ := st.hr.obj i b d n hm (by rw [ran.next]; exact hil)
      refine ⟨o1, ?_, by rw [up]; exact a2⟩
      rw [ran.in_ i ht, a1]
  · intro i b d n hm hno
    have hnt := hno k (.inr rfl)
    rw [untouched i hnt] at hm
    obtain ⟨o1, a1, a2⟩ := v.ob0 i b d n hm fun k' h2 => hno k' (.inl h2)
    refine ⟨o1, a1, ?_⟩
    by_cases hdd : o1 = .dead
    · subst hdd; trivial
    · exact a2.mono (M.upto_mono le _) (block i b d n hm (.inr ⟨fun k' h2 => hno k' (.inl h2), by rw [a1]; simpa using hdd⟩) hnt)
  · intro i b d n hm
    by_cases h2 : i < (hs (k + 1)).next
    · rw [jn_in i h2] at hm; exact st.hr.blk i b d n hm
    · rw [jn_out i (by omega)] at hm; exact Nat.lt_of_lt_of_le (v.blk i b d n hm) st.size
  · intro i j b d n d' n' hmi hmj hli hlj
    by_cases hti : touch own hs i k
    · obtain ⟨a1, a2⟩ := live1 i b d n hti hmi hli
      by_cases htj : touch own hs j k
      · obtain ⟨b1, b2⟩ := live1 j b d' n' htj hmj hlj
        exact st.hr.inj i j b d n d' n' a1 b1 (by rw [ran.next]; exact tlt i hti) (by rw [ran.next]; exact tlt j htj) a2 b2
      · rw [untouched j htj] at hmj
        exact (apart i j b d n d' n' hti htj a1 a2 hmj (liveOf j htj hlj)).elim
    · rw [untouched i hti] at hmi
      by_cases htj : touch own hs j k
      · obtain ⟨b1, b2⟩ := live1 j b d' n' htj hmj hlj
        exact (apart j i b d' n' d n htj hti b1 b2 hmi (liveOf i hti hli)).elim
      · rw [untouched j htj] at hmj
        exact v.inj i j b d n d' n' hmi hmj (liveOf i hti hli) (liveOf j htj hlj)
  · intro b hb hc
    rw [← v.frame b hb hc]
    refine st.frame b (Nat.lt_of_lt_of_le hb v.size) fun i d n hm hi hlog => ?_
    obtain ⟨i1, i2⟩ := M.upto_some hm
    have hown := ran.log i hlog i1
    have hlt := r.lt k i hk hkq hown
    rw [seen i hown]
    exact hc i d n (by rw [← v.old i hlt]; exact i2) hlt (logk i hlog)
  · intro i b d n hm hge
    by_cases h2 : (hs k).next ≤ i ∧ i < (hs (k + 1)).next
    · rw [jn_in i h2.2] at hm
      rcases st.fresh i b d n hm h2.1 (by rw [ran.next]; exact h2.2) with h3 | ⟨j, d0, n0, j1, j2, j3, j4⟩
      · exact .inl (Nat.le_trans v.size h3)
      · have j1' : j < (hs k).next := j1
        have hown := ran.log j j3 j1'
        have hlt := r.lt k j hk hkq hown
        refine .inr ⟨j, d0, n0, hlt, by rw [← v.old j hlt]; exact (M.upto_some j2).2, logk j j3, ?_⟩
        rw [← seen j hown]; exact j4
    · rw [jn_out i h2] at hm
      exact v.fresh i b d n hm hge
  · rintro i k' (hLk | rfl) hown hdd
    · exact v.dead i k' hLk hown hdd
    · have hlt : i < (hs k').next := by have := r.lt k' i hk hkq hown; omega
      have h2 := st.dead i hlt (by rw [seen i hown]; exact hdd)
      rw [ran.in_ i (.inl hown), h2]
  · rintro i k' (hLk | rfl) hown hnl
    · exact v.same i k' hLk hown hnl
    · have hlt : i < (hs k').next := by have := r.lt k' i hk hkq hown; omega
      have h2 := st.same i hlt fun hl => hnl (logk i hl)
      rw [seen i hown] at h2
      rw [ran.in_ i (.inl hown), h2]
      have h3 : (hs k').get i = (hs p).get i := r.get k' p (Nat.le_refl _) hk (by omega) fun j j1 j2 hj => by
        have := r.one j1 (by omega) hk hkq hj (.inl hown); omega
      cases hg : (hs p).get i with
      | some o' => rfl
      | none => simp only; rw [h3, hg]
end Go.X

/-
  A row of operations that may be drawn: begun, ended, walked.
-/
namespace Go.X
variable {P : Program} {m m0 : M} {w w0 : World} {ops : Array Oper} {ids : List Nat} {p q : Nat} {own vis : Nat → List Nat} {fs : Nat → Fr} {hs : Nat → H} {L : Nat → Prop} {a : Act} {call : FuncId → List LV → H → R (LV × H)} {self : Option Nat → Code → St → R (XE × St)}

theorem M.upto_self (m : M) (n : Nat) : (m.upto n).le m := fun _ _ h => (M.upto_some h).2
theorem Inv.start (r : Row ops ids p q own vis fs hs) (hr : HR m (hs p) w) (ht : Tight m (hs p)) (hf : FrR m (fs p) a.tmps) : Inv ops p q own fs hs (fun _ => False) m w m a w := by
  have small : ∀ i x, m i = some x → i < (hs p).next := fun i x hx => by
    apply Nat.lt_of_not_le; intro hle; rw [ht i hle] at hx; cases hx
  have up : ∀ n, (hs p).next ≤ n → m.le (m.upto n) := fun n hn i x hx => by rw [M.upto_lt m (Nat.lt_of_lt_of_le (small i x hx) hn)]; exact hx
  refine ⟨fun _ h => h.elim, ?_, fun _ _ => rfl, hf.size, ?_, fun _ _ _ _ _ _ h => h.elim, ?_, hr.blk, ?_, Nat.le_refl _, rfl, rfl, rfl, fun _ _ _ => rfl, ?_, fun _ _ h => h.elim, fun _ _ h => h.elim⟩
  · intro i hi
    cases hm : m i with
    | none => exact absurd hm hi
    | some x => exact .inl (small i x hm)
  · intro t k hk hkq h1 _
    rw [r.frame k p (Nat.le_refl _) hk hkq fun j j1 j2 hj => h1 j j1 j2 hj]
    exact (hf.get t).mono (up _ (r.mono k p (Nat.le_refl _) hk hkq))
  · intro i b d n hm _
    obtain ⟨o, h1, h2⟩ := hr.obj i b d n hm (small i _ hm)
    exact ⟨o, h1, h2.mono (up _ (Nat.le_refl _)) rfl⟩
  · rintro i j b d n d' n' h1 h2 (⟨_, h, _⟩ | ⟨_, h3⟩) (⟨_, h, _⟩ | ⟨_, h4⟩) <;> first | exact h.elim | exact hr.inj i j b d n d' n' h1 h2 (small i _ h1) (small j _ h2) h3 h4
  · intro i b d n hm hge
    have := small i _ hm; omega
theorem Inv.done (r : Row ops ids p q own vis fs hs) (hpq : p ≤ q) (v : Inv ops p q own fs hs L m0 w0 m a w) (hall : ∀ k, p ≤ k → k < q → L k) (ht : Tight m0 (hs p)) : Step m0 (hs p) w0 m (hs q) w ∧ FrR m (fs q) a.tmps := by
  have hN := r.mono q p (Nat.le_refl _) hpq (Nat.le_refl _)
  have top : ∀ i x, m i = some x → i < (hs q).next := by
    intro i x hm
    rcases v.dom i (by rw [hm]; simp) with h1 | ⟨k, h1, _, h2⟩
    · omega
    · obtain ⟨r1, r2⟩ := v.rng k h1
      have := r.mono q (k + 1) (by omega) (by omega) (Nat.le_refl _); omega
  have last : ∀ i k, p ≤ k → k < q → touch own hs i k → (hs q).get i = (hs (k + 1)).get i := fun i k h1 h2 h3 =>
    r.get q (k + 1) (by omega) (by omega) (Nat.le_refl _) fun j j1 j2 hj => by
      have := r.one h1 h2 (by omega) j2 h3 hj; omega
  have still : ∀ i, (∀ k, p ≤ k → k < q → ¬ touch own hs i k) → (hs q).get i = (hs p).get i := fun i h => r.get q p (Nat.le_refl _) hpq (Nat.le_refl _) h
  have live : ∀ i, (hs q).get i ≠ some .dead → Live own hs p L i := by
    intro i hd
    by_cases h : ∃ k, p ≤ k ∧ k < q ∧ touch own hs i k
    · obtain ⟨k, h1, h2, h3⟩ := h
      exact .inl ⟨k, hall k h1 h2, h3, by rw [← last i k h1 h2 h3]; exact hd⟩
    · have hno : ∀ k, p ≤ k → k < q → ¬ touch own hs i k := fun k h1 h2 h3 => h ⟨k, h1, h2, h3⟩
      exact .inr ⟨fun k hk => hno k (v.rng k hk).1 (v.rng k hk).2, by rw [← still i hno]; exact hd⟩
  have owns : ∀ i, i < (hs p).next → ∀ k, p ≤ k → k < q → touch own hs i k → i ∈ own k := by
    rintro i hi k h1 h2 (h3 | ⟨h3, _⟩)
    · exact h3
    · have := r.mono k p (Nat.le_refl _) h1 (by omega); omega
  refine ⟨⟨?_, ?_, hN, ⟨?_, ?_, v.blk, ?_, ?_⟩, fun i hi => r.log q p (Nat.le_refl _) hpq (Nat.le_refl _) hi, ?_, ?_, ?_, v.size, v.frame, v.os, v.tape, v.output⟩, ?_, ?_⟩
  · rintro i (hi | hi)
    · exact v.old i hi
    · rw [ht i (by omega)]
      cases hm : m i with
      | none => rfl
      | some x => have := top i x hm; omega
  · intro i x hx
    have hlt : i < (hs p).next := by
      apply Nat.lt_of_not_le; intro hle; rw [ht i hle] at hx; cases hx
    rw [v.old i hlt]; exact hx
  · intro i hi
    rw [still i fun k h1 h2 h3 => ?_]
    · exact r.wf i (by omega)
    · rcases h3 with h3 | ⟨_, h3⟩
      · have := r.lt k i h1 h2 h3; omega
      · have := r.mono q (k + 1) (by omega) (by omega) (Nat.le_refl _); omega
  · intro i b d n hm _
    by_cases h : ∃ k, p ≤ k ∧ k < q ∧ touch own hs i k
    · obtain ⟨k, h1, h2, h3⟩ := h
      obtain ⟨o, o1, o2⟩ := v.ob1 i b d n k hm (hall k h1 h2) h3
      exact ⟨o, by rw [last i k h1 h2 h3]; exact o1, o2.mono (M.upto_self m _) rfl⟩
    · have hno : ∀ k, p ≤ k → k < q → ¬ touch own hs i k := fun k h1 h2 h3 => h ⟨k, h1, h2, h3⟩
      obtain ⟨o, o1, o2⟩ := v.ob0 i b d n hm fun k hk => hno k (v.rng k hk).1 (v.rng k hk).2
      exact ⟨o, by rw [still i hno]; exact o1, o2.mono (M.upto_self m _) rfl⟩
  · intro i j b d n d' n' h1 h2 _ _ h3 h4
    exact v.inj i j b d n d' n' h1 h2 (live i h3) (live j h4)
  · intro i j b d n d' n' _ h2 _ h3
    have := top j _ h2; omega
  · intro i hi hl
    by_cases h : ∃ k, p ≤ k ∧ k < q ∧ touch own hs i k
    · obtain ⟨k, h1, h2, h3⟩ := h
      rw [last i k h1 h2 h3]
      exact v.same i k (hall k h1 h2) (owns i hi k h1 h2 h3) hl
    · exact still i fun k h1 h2 h3 => h ⟨k, h1, h2, h3⟩
  · intro i hi hd
    by_cases h : ∃ k, p ≤ k ∧ k < q ∧ touch own hs i k
    · obtain ⟨k, h1, h2, h3⟩ := h
      rw [last i k h1 h2 h3]
      exact v.dead i k (hall k h1 h2) (owns i hi k h1 h2 h3) hd
    · rw [still i fun k h1 h2 h3 => h ⟨k, h1, h2, h3⟩]; exact hd
  · intro i b d n hm h1 _
    exact v.fresh i b d n hm h1
  · rw [v.sz, r.sz q hpq (Nat.le_refl _)]
  · intro t
    exact (v.tm t q hpq (Nat.le_refl _) (fun j j1 j2 _ => hall j j1 j2) (fun j j1 j2 _ => by omega)).mono (M.upto_self m _)

/-! ### The walk -/
/-- How many are not listed yet. -/
def unl (n : Nat) (a : Array Bool) : Nat := (List.range n).countP fun i => !a.getD i false
theorem countP_lt {f g : Nat → Bool} {i : Nat} : ∀ {l : List Nat}, i ∈ l → (∀ j, f j = true → g j = true) → f i = false → g i = true → l.countP f < l.countP g := by
  intro l
  induction l with
  | nil => intro h; cases h
  | cons x l ih =>
    intro hi hfg hf hg
    have hle : l.countP f ≤ l.countP g := List.countP_mono_left fun j _ h => hfg j h
    rw [List.countP_cons, List.countP_cons]
    by_cases hx : i = x
    · subst hx; rw [hf, hg]; simp; omega
    · have hil : i ∈ l := (List.mem_cons.1 hi).resolve_left hx
      have := ih hil hfg hf hg
      cases hfx : f x with
      | true => rw [hfg x hfx]; simp; omega
      | false => cases g x <;> simp <;> omega
theorem unl_set {n i : Nat} {a : Array Bool} (hs : a.size = n) (hi : i < n) (hl : ¬ Listed a i) : unl n (a.setIfInBounds i true) < unl n a := by
  unfold unl
  refine countP_lt (i := i) (by simpa using hi) (fun j hj => ?_) ?_ ?_
  · simp only [Bool.not_eq_true'] at hj ⊢
    apply Bool.eq_false_iff.2
    intro h
    have := (listed_set (a := a) (i := i) (j := j) (by omega)).2 (.inr h)
    unfold Listed at this
    rw [this] at hj; cases hj
  · have := (listed_set (a := a) (i := i) (j := i) (by omega)).2 (.inl rfl)
    unfold Listed at this
    rw [this]; rfl
  · unfold Listed at hl
    simpa using hl
theorem unl_pos {n i : Nat} {a : Array Bool} (hi : i < n) (hl : ¬ Listed a i) : 0 < unl n a := by
  unfold unl
  rw [List.countP_pos_iff]
  refine ⟨i, by simpa using hi, ?_⟩
  unfold Listed at hl
  simpa using hl
theorem ready_ex (hsa : Sane ops) {l : Array Bool} (hl : l.size = ops.size) {i : Nat} (hi : i < ops.size) (hn : ¬ Listed l i) (hb : ∀ j, j < i → Listed l j) : i ∈ Region.ready .any ops l := by
  rw [ready_iff hl]
  refine ⟨hi, hn, ops[i], Array.getElem?_eq_getElem hi, fun e he hbi => hb _ (hsa.back i _ (Array.getElem?_eq_getElem hi) e he hbi)⟩
theorem first_unlisted {l : Array Bool} : ∀ (n : Nat), (∃ i, i < n ∧ ¬ Listed l i) → ∃ i, i < n ∧ ¬ Listed l i ∧ ∀ j, j < i → Listed l j := by
  intro n
  induction n with
  | zero => rintro ⟨i, h, _⟩; omega
  | succ n ih =>
    rintro ⟨i, h1, h2⟩
    by_cases h : ∃ i, i < n ∧ ¬ Listed l i
    · obtain ⟨i, a, b, c⟩ := ih h; exact ⟨i, by omega, b, c⟩
    · have hn : ∀ j, j < n → Listed l j := fun j hj => Classical.byContradiction fun hc => h ⟨j, hj, hc⟩
      have : i = n := by
        apply Classical.byContradiction
        intro hne
        exact h2 (hn i (by omega))
      subst this
      exact ⟨i, by omega, h2, hn⟩
theorem EvR_names {k : Nat} {f : Fr} {o : Oper} (hv : ∀ t ∈ namesOf ops o, VR m (f.get t) (a.tmps.getD t undef)) : ∀ x ∈ o.op.operands, EvR m f a x := by
  intro x hx v e
  cases x with
  | tmp t =>
    simp only [ev, Option.some.injEq] at e; subst e
    refine hv t ?_
    unfold namesOf tmpsOf
    simp only [List.mem_append, List.mem_filterMap]
    exact .inl (.inr ⟨.tmp t, by simpa using hx, rfl⟩)
  | const c => exact ofVal_VR e
  | global g => simp [ev] at e
  | func g => simp only [ev, Option.some.injEq] at e; subst e; exact .func .nil .nil
theorem seg_walk (hc : CallOK P call) (hse : ExecOK P self) (r : Row ops ids p q own vis fs hs) (hpq : p ≤ q) (hq : q ≤ ops.size) (hbar : q < ops.size → isBar (Region.before ops) ops.size q = true)
    (hqu : ∀ k o, p ≤ k → k < q → ops[k]? = some o → Quiet1 P call self ops.toList ids (own k) (vis k) o (fs k) (hs k) (fs (k + 1)) (hs (k + 1))) {ro : Option Nat} {F : Fence} (hro : RoF m0 ro F) (ht : Tight m0 (hs p)) {Q : Exit → Act → World → Prop} {d0 : List Deferred}
    (hend : ∀ fuel listed m a w, unl ops.size listed ≤ fuel → listed.size = ops.size → Shut ops (Listed listed) → (∀ i, Listed listed i ↔ i < q) → Step m0 (hs p) w0 m (hs q) w → FrR m (fs q) a.tmps → a.defers = d0 → wpAnyIn F 0 P .any ops Q fuel listed a w) :
    ∀ fuel listed m a w, unl ops.size listed ≤ fuel → listed.size = ops.size → Shut ops (Listed listed) → (∀ i, i < p → Listed listed i) → (∀ i, q ≤ i → ¬ Listed listed i) →
      Inv ops p q own fs hs (fun k => p ≤ k ∧ k < q ∧ Listed listed k) m0 w0 m a w → a.defers = d0 → wpAnyIn F 0 P .any ops Q fuel listed a w := by
  intro fuel
  induction fuel with
  | zero =>
    intro listed m a w hu hsz hsh h1 h2 v hd
    refine hend 0 listed m a w hu hsz hsh (fun i => ⟨fun hi => Nat.lt_of_not_le fun hle => h2 i hle hi, fun hi => ?_⟩) (v.done r hpq ?_ ht).1 (v.done r hpq ?_ ht).2 hd
    all_goals
      first
      | (apply Classical.byContradiction; intro hn; have := unl_pos (n := ops.size) (by omega) hn; omega)
      | (intro k k1 k2; refine ⟨k1, k2, ?_⟩; apply Classical.byContradiction; intro hn; have := unl_pos (n := ops.size) (by omega) hn; omega)
  | succ fuel ih =>
    intro listed m a w hu hsz hsh h1 h2 v hd
    by_cases hall : ∀ k, p ≤ k → k < q → Listed listed k
    · refine hend (fuel + 1) listed m a w hu hsz hsh (fun i => ⟨fun hi => Nat.lt_of_not_le fun hle => h2 i hle hi, fun hi => ?_⟩) (v.done r hpq (fun k k1 k2 => ⟨k1, k2, hall k k1 k2⟩) ht).1 (v.done r hpq (fun k k1 k2 => ⟨k1, k2, hall k k1 k2⟩) ht).2 hd
      by_cases hip : i < p
      · exact h1 i hip
      · exact hall i (by omega) hi
    · have hun : ∃ i, i < q ∧ ¬ Listed listed i := by
        apply Classical.byContradiction
        intro hne
        exact hall fun k _ k2 => Classical.byContradiction fun hn => hne ⟨k, k2, hn⟩
      refine ⟨fun hrd => ?_, fun k hkr => ?_⟩
      · exfalso
        obtain ⟨i, i1, i2, i3⟩ := first_unlisted q hun
        have := ready_ex r.sane hsz (by omega) i2 i3
        rw [hrd] at this; cases this
      · obtain ⟨k1, k2, o, ho, k3⟩ := (ready_iff hsz).1 hkr
        have hpk : p ≤ k := Nat.le_of_not_lt fun hlt => k2 (h1 k hlt)
        have hkq : k < q := by
          apply Nat.lt_of_not_le
          intro hle
          obtain ⟨i, i1, i2, _⟩ := first_unlisted q hun
          have hb := isBar_true (hbar (by omega))
          by_cases hkq : k = q
          · subst hkq
            exact i2 (ready_ahead hsz hsh hkr (hb.1 i i1))
          · exact h2 q (Nat.le_refl _) (ready_ahead hsz hsh hkr (hb.2 k k1 (by omega)))
        have hnL : ¬ (p ≤ k ∧ k < q ∧ Listed listed k) := fun x => k2 x.2.2
        have hdep : ∀ t ∈ namesOf ops o, ∀ j, writes_ ops j t → p ≤ j → j < q → (j < k → (p ≤ j ∧ j < q ∧ Listed listed j)) ∧ (k < j → ¬ (p ≤ j ∧ j < q ∧ Listed listed j)) := by
          intro t ht' j hj j1 j2
          rcases r.sane.names k o t j ho ht' hj with h3 | ⟨h3, h4⟩ | ⟨h3, h4⟩
          · exact ⟨fun h => by omega, fun h => by omega⟩
          · exact ⟨fun _ => ⟨j1, j2, ready_ahead hsz hsh hkr h4⟩, fun h => by omega⟩
          · exact ⟨fun h => by omega, fun _ hl => k2 (hsh.ahead _ _ hl.2.2 h4)⟩
        have hnm : ∀ t ∈ namesOf ops o, VR (m.upto (hs k).next) ((fs k).get t) (a.tmps.getD t undef) := fun t ht' => eval_EvR v hpk hkq hnL hdep ht'
        have hnext : ∀ m' a' w', Inv ops p q own fs hs (fun j => (p ≤ j ∧ j < q ∧ Listed listed j) ∨ j = k) m0 w0 m' a' w' → a'.defers = d0 → wpAnyIn F 0 P .any ops Q fuel (listed.setIfInBounds k true) a' w' := by
          intro m' a' w' v' hd'
          have hls : ∀ j, Listed (listed.setIfInBounds k true) j ↔ j = k ∨ Listed listed j := fun j => listed_set (by omega)
          refine ih _ m' a' w' (by have := unl_set hsz k1 k2; omega) (by simp [hsz]) (shut_set hsz hsh hkr) (fun i hi => (hls i).2 (.inr (h1 i hi))) (fun i hi hl => ?_) ?_ hd'
          · rcases (hls i).1 hl with h3 | h3
            · omega
            · exact h2 i hi h3
          · have : (fun j => p ≤ j ∧ j < q ∧ Listed (listed.setIfInBounds k true) j) = fun j => (p ≤ j ∧ j < q ∧ Listed listed j) ∨ j = k := by
              funext j
              apply propext
              rw [hls]
              constructor
              · rintro ⟨x1, x2, rfl | x3⟩
                · exact .inr rfl
                · exact .inl ⟨x1, x2, x3⟩
              · rintro (⟨x1, x2, x3⟩ | rfl)
                · exact ⟨x1, x2, .inr x3⟩
                · exact ⟨hpk, hkq, .inl rfl⟩
            rw [this]; exact v'
        have hgu : guardOk ops.toList (fs k) o = Region.wanted o (yielded ops a.tmps) := guard_ok fun j want q' d hg hq' hd' => hnm d (by
          unfold namesOf
          rw [hg]
          simp only [hq', List.mem_append]
          exact .inr (by simp [hd']))
        have hord : (∀ j, p ≤ j → j < q → Ahead ops j k → (p ≤ j ∧ j < q ∧ Listed listed j)) ∧ (∀ j, (p ≤ j ∧ j < q ∧ Listed listed j) → ¬ Ahead ops k j) := ⟨fun j j1 j2 hj => ⟨j1, j2, ready_ahead hsz hsh hkr hj⟩, fun j hj hk' => k2 (hsh.ahead _ _ hj.2.2 hk')⟩
        have hheap := v.heap r hpk hkq hnL hord
        have hro' : RoF (m.upto (hs k).next) ro F := by
          cases ro with
          | none => exact hro
          | some l =>
            obtain ⟨b, d, n, e1, e2⟩ := hro
            have hlt : l < (hs p).next := by apply Nat.lt_of_not_le; intro hle; rw [ht l hle] at e1; cases e1
            refine ⟨b, d, n, ?_, e2⟩
            rw [M.upto_lt m (Nat.lt_of_lt_of_le hlt (r.mono k p (Nat.le_refl _) hpk (by omega))), v.old l hlt]; exact e1
        simp only [wpOpIn, ho]
        rcases quiet_ran (fun i hi => r.ownVis k i hpk hkq hi) (hqu k o hpk hkq ho) with ⟨g, x, hx1, he, ran⟩ | ⟨g, ran⟩
        · rw [if_pos (by rw [← hgu]; exact g)]
          refine oper_ok hc hse (f := fs k) (h := bare ids (vis k) (hs k)) (by rw [he]; simp) hheap (tight_upto k) (EvR_names (k := k) hnm) hro' ?_
          intro r' m' w' V hr' hst hV
          rw [he] at hr'
          cases hr'
          exact hnext _ _ _ (v.step r hpk hkq hnL hord ho hdep ran hst hV) ((put_defers _ _ _).trans hd)
        · rw [if_neg (by rw [← hgu, g]; simp)]
          exact ⟨fun f _ => hro.fn f, hnext _ _ _ (v.step r hpk hkq hnL hord ho hdep ran (.refl hheap) undefL_VR) ((put_defers _ _ _).trans hd)⟩
end Go.X

/-
  Regions that draw their order: whole.
-/
namespace Go.X
variable {P : Program} {ops : Array Oper} {call : FuncId → List LV → H → R (LV × H)} {self : Option Nat → Code → St → R (XE × St)}

theorem flat_once {i : Nat} : ∀ {wl : List (List Nat)}, wl.flatten.Nodup → ∀ {a b : Nat}, i ∈ (wl[a]?).getD [] → i ∈ (wl[b]?).getD [] → a = b := by
  intro wl
  induction wl with
  | nil => intro _ a b ha; simp at ha
  | cons x l ih =>
    intro h a b ha hb
    rw [List.flatten_cons, List.nodup_append] at h
    obtain ⟨_, h2, h3⟩ := h
    have inl : ∀ c : Nat, i ∈ (l[c]?).getD [] → i ∈ l.flatten := by
      intro c hc
      have hlc : c < l.length := by apply Nat.lt_of_not_le; intro hle; rw [List.getElem?_eq_none hle] at hc; cases hc
      rw [List.getElem?_eq_getElem hlc] at hc
      exact List.mem_flatten.2 ⟨_, List.getElem_mem hlc, hc⟩
    cases a with
    | zero =>
      cases b with
      | zero => rfl
      | succ b =>
        simp only [List.getElem?_cons_zero, Option.getD_some] at ha
        simp only [List.getElem?_cons_succ] at hb
        exact absurd rfl (h3 i ha i (inl b hb))
    | succ a =>
      simp only [List.getElem?_cons_succ] at ha
      cases b with
      | zero =>
        simp only [List.getElem?_cons_zero, Option.getD_some] at hb
        exact absurd rfl (h3 i hb i (inl a ha))
      | succ b =>
        simp only [List.getElem?_cons_succ] at hb
        rw [ih h2 ha hb]
theorem draw_walk (hc : CallOK P call) (hse : ExecOK P self) (hsa : Sane ops) {ro : Option Nat} {F : Fence} {Q : Exit → Act → World → Prop} : ∀ (k p fuel : Nat) (listed : Array Bool) (m : M) (f : Fr) (h : H) (w : World) (a : Act),
    xDraw P call self ops.toList (Region.before ops) k ((bars ops).drop p) f h ≠ .no → p ≤ ops.size → HR m h w → Tight m h → FrR m f a.tmps → RoF m ro F → unl ops.size listed ≤ fuel → listed.size = ops.size → Shut ops (Listed listed) → (∀ i, Listed listed i ↔ i < p) →
    (∀ r m' w' a', (xDraw P call self ops.toList (Region.before ops) k ((bars ops).drop p) f h).has r → Step m h w m' r.2 w' → FrR m' r.1 a'.tmps → a'.defers = a.defers → Q .normal a' w') → wpAnyIn F 0 P .any ops Q fuel listed a w := by
  intro k
  induction k with
  | zero => intro p fuel listed m f h w a e; exact absurd rfl e
  | succ k ih =>
    intro p fuel listed m f h w a e hp hr ht hf hro hu hsz hsh hls hQ
    cases hl : (bars ops).drop p with
    | nil =>
      have hps : p = ops.size := by
        have := congrArg List.length hl
        simp [bars_length] at this; omega
      rw [hl] at hQ
      refine wpAnyIn_done ?_ (hQ (f, h) m w a rfl (.refl hr) hf rfl) fuel
      cases hrd : Region.ready .any ops listed with
      | nil => rfl
      | cons i l =>
        have : i ∈ Region.ready .any ops listed := by rw [hrd]; simp
        obtain ⟨i1, i2, _⟩ := (ready_iff hsz).1 this
        exact absurd ((hls i).2 (by omega)) i2
    | cons ob rest =>
      obtain ⟨o, b⟩ := ob
      rw [hl] at e hQ
      have hps : p < ops.size := by
        have := congrArg List.length hl
        simp [bars_length] at this; omega
      have hob : ops[p]? = some o ∧ isBar (Region.before ops) ops.size p = b := by
        have h1 : ((bars ops).drop p)[0]? = some (o, b) := by rw [hl]; rfl
        rw [List.getElem?_drop, Nat.add_zero, bars_get] at h1
        cases ho : ops[p]? with
        | none => rw [ho] at h1; simp at h1
        | some o' => rw [ho] at h1; simp at h1; exact ⟨by rw [h1.1], h1.2⟩
      have hrest : rest = (bars ops).drop (p + 1) := by rw [← List.drop_drop, hl]; rfl
      have hpl : ¬ Listed listed p := fun x => by have := (hls p).1 x; omega
      cases b with
      | true =>
        simp only [xDraw] at e hQ
        have hb := isBar_true hob.2
        cases fuel with
        | zero => have := unl_pos hps hpl; omega
        | succ fuel =>
          have hrdy := ready_ex hsa hsz hps hpl fun j hj => (hls j).2 hj
          refine ⟨fun hrd => (by rw [hrd] at hrdy; cases hrdy), fun i hi => ?_⟩
          obtain ⟨i1, i2, _⟩ := (ready_iff hsz).1 hi
          have hip : i = p := by
            rcases Nat.lt_trichotomy i p with hlt | heq | hgt
            · exact absurd ((hls i).2 hlt) i2
            · exact heq
            · exact absurd (ready_ahead hsz hsh hi (hb.2 i i1 hgt)) hpl
          subst hip
          simp only [wpOpIn, hob.1]
          unfold opsStep at e hQ
          have hgu : guardOk ops.toList f o = Region.wanted o (yielded ops a.tmps) := guard_ok fun j want q d _ _ _ => hf.get d
          rw [hgu] at e hQ
          have hls' : ∀ j, Listed (listed.setIfInBounds i true) j ↔ j < i + 1 := fun j => by
            rw [listed_set (by omega), hls]; omega
          have hu' : unl ops.size (listed.setIfInBounds i true) ≤ fuel := by have := unl_set hsz hps hpl; omega
          rw [hrest] at e hQ
          cases hw : Region.wanted o (yielded ops a.tmps) with
          | true =>
            simp only [hw, cond_true] at e hQ
            simp only [if_true]
            obtain ⟨b1, b2⟩ := R.bind_has e
            refine oper_ok hc hse b1 hr ht (fun x _ => hf.ev x) hro fun r m1 w1 V hr1 hst hv => ?_
            obtain ⟨c1, c2⟩ := b2 r hr1
            cases hpo : f.putO o.dst r.1 with
            | none => simp [hpo] at c1
            | some f1 =>
              simp only [hpo] at c1 c2
              refine ih (i + 1) fuel _ m1 f1 r.2 w1 (a.put o.dst V) c1 hps hst.hr (hst.tight ht) ((hf.mono hst.le).putO hpo hv) (hro.mono hst.le) hu' (by simp [hsz]) (shut_set hsz hsh hi) hls' ?_
              intro r2 m2 w2 a2 q1 q2 q3 q4
              exact hQ r2 m2 w2 a2 (c2 r2 q1) (hst.trans q2) q3 (q4.trans (put_defers _ _ _))
          | false =>
            simp only [hw, cond_false] at e hQ
            simp only [Bool.false_eq_true, if_false]
            refine ⟨fun f _ => hro.fn f, ?_⟩
            cases hpo : f.putO o.dst undefL with
            | none => simp [hpo] at e
            | some f1 =>
              simp only [hpo] at e hQ
              refine ih (i + 1) fuel _ m f1 h w (a.put o.dst undef) e hps hr ht (hf.putO hpo undefL_VR) hro hu' (by simp [hsz]) (shut_set hsz hsh hi) hls' ?_
              intro r2 m2 w2 a2 q1 q2 q3 q4
              exact hQ r2 m2 w2 a2 q1 q2 q3 (q4.trans (put_defers _ _ _))
      | false =>
        simp only [xDraw] at e hQ
        have hsp := spanQ_spec ((o, false) :: rest)
        rcases hq : spanQ ((o, false) :: rest) with ⟨seg, r'⟩
        rw [hq] at e hQ hsp
        simp only at e hQ hsp
        have hp0 : Nat.sub ops.toList.length (Nat.succ rest.length) = p := by
          have := congrArg List.length hl
          simp [bars_length] at this
          show ops.toList.length - (rest.length + 1) = p
          rw [Array.length_toList]; omega
        rw [hp0] at e hQ
        cases hqa : quietAll P call self ops.toList seg (Region.before ops) p f h with
        | none => simp [hqa] at e
        | some fh =>
          obtain ⟨f', h'⟩ := fh
          simp only [hqa] at e hQ
          unfold quietAll at hqa
          obtain ⟨wl, x1, x2, x3⟩ := quietTry_spec _ _ hqa
          obtain ⟨a1, a2⟩ := apart_spec x1
          obtain ⟨fs, hs, y1, y2, y3, y4, y5⟩ := quietOps_spec seg wl 0 p f h f' h' x2 x3
          have hseg : ∀ j o', seg[j]? = some o' → ops[p + j]? = some o' := by
            intro j o' hj
            have hjl : j < seg.length := (List.getElem?_eq_some_iff.1 hj).1
            have h1 : ((bars ops).drop p)[j]? = some (o', false) := by
              rw [hl, hsp.1, List.getElem?_append_left (by simpa using hjl), List.getElem?_map, hj]; rfl
            rw [List.getElem?_drop, bars_get] at h1
            cases ho : ops[p + j]? with
            | none => rw [ho] at h1; simp at h1
            | some o2 => rw [ho] at h1; simp at h1; rw [h1.1]
          have hr' : r' = (bars ops).drop (p + seg.length) := by
            rw [← List.drop_drop, hl, hsp.1]
            rw [List.drop_append_of_le_length (by simp)]
            simp
          have hqs : p + seg.length ≤ ops.size := by
            have := congrArg List.length hl
            rw [hsp.1] at this
            simp [bars_length] at this; omega
          have hget : ∀ kk o', p ≤ kk → kk < p + seg.length → ops[kk]? = some o' → seg[kk - p]? = some o' := by
            intro kk o' h1 h2 h3
            have hlt : kk - p < seg.length := by omega
            have := hseg (kk - p) _ (List.getElem?_eq_getElem hlt)
            rw [show p + (kk - p) = kk by omega, h3] at this
            rw [List.getElem?_eq_getElem hlt]; exact this.symm
          have hqu : ∀ kk o', p ≤ kk → kk < p + seg.length → ops[kk]? = some o' → Quiet1 P call self ops.toList wl.flatten ((wl[kk - p]?).getD []) (visOf (Region.before ops) kk (ownersOf p wl)) o' (fs kk) (hs kk) (fs (kk + 1)) (hs (kk + 1)) := by
            intro kk o' h1 h2 h3
            have := y5 (kk - p) o' (hget kk o' h1 h2 h3)
            simp only [Nat.zero_add, Nat.add_eq] at this
            rw [show p + (kk - p) = kk by omega] at this
            exact this
          have hov : ∀ kk i, p ≤ kk → kk < p + seg.length → i ∈ (wl[kk - p]?).getD [] → i ∈ visOf (Region.before ops) kk (ownersOf p wl) := by
            intro kk i h1 h2 h3
            have := own_vis (b := Region.before ops) (p := p) h3
            rw [show p + (kk - p) = kk by omega] at this
            exact this
          have row : Row ops wl.flatten p (p + seg.length) (fun kk => (wl[kk - p]?).getD []) (fun kk => visOf (Region.before ops) kk (ownersOf p wl)) fs hs := by
            refine ⟨hsa, ?_, ?_, ?_, ?_, ?_, ?_, hov, ?_⟩
            · intro kk o' h1 h2 h3
              rcases quiet_ran (hov kk · h1 h2) (hqu kk o' h1 h2 h3) with ⟨_, v, h1', _, r⟩ | ⟨_, r⟩
              · exact ⟨v, h1', r⟩
              · exact ⟨_, _, r⟩
            · intro kk h1 h2
              have hlt : kk - p < seg.length := by omega
              have := hseg (kk - p) _ (List.getElem?_eq_getElem hlt)
              rw [show p + (kk - p) = kk by omega] at this
              exact ⟨_, this⟩
            · intro i
              rw [List.mem_flatten]
              constructor
              · rintro ⟨l, l1, l2⟩
                obtain ⟨j, j1, rfl⟩ := List.mem_iff_getElem.1 l1
                refine ⟨p + j, by omega, by omega, ?_⟩
                rw [show p + j - p = j by omega, List.getElem?_eq_getElem j1]; exact l2
              · rintro ⟨kk, k1, k2, k3⟩
                have hlt : kk - p < wl.length := by omega
                simp only [List.getElem?_eq_getElem hlt, Option.getD_some] at k3
                exact ⟨_, List.getElem_mem hlt, k3⟩
            · intro kk i h1 h2 h3
              rw [y2]
              have hlt : kk - p < wl.length := by omega
              simp only [List.getElem?_eq_getElem hlt, Option.getD_some] at h3
              exact a1 i (List.mem_flatten.2 ⟨_, List.getElem_mem hlt, h3⟩)
            · intro kk k' i h1 h2 h3 h4 h5 h6
              have := flat_once a2 h5 h6; omega
            · intro i hi; rw [y2] at hi ⊢; exact hr.wf i hi
            · intro kk i h1 h2 h3
              obtain ⟨j, j1, j2, j3, j4⟩ := vis_own h3
              rcases j4 with rfl | j4
              · exact .inl j3
              · refine .inr ⟨j, j1, by omega, j3, ?_⟩
                unfold ordB at j4
                rw [Bool.or_eq_true] at j4
                exact j4
          have start := Inv.start (m := m) (w := w) (a := a) row (by rw [y2]; exact hr) (by rw [y2]; exact ht) (by rw [y1]; exact hf)
          have hLe : (fun kk => p ≤ kk ∧ kk < p + seg.length ∧ Listed listed kk) = fun _ => False := by
            funext kk
            apply propext
            constructor
            · rintro ⟨k1, _, k3⟩; have := (hls kk).1 k3; omega
            · exact fun h => h.elim
          refine seg_walk hc hse row (by omega) hqs ?_ hqu hro (by rw [y2]; exact ht) (d0 := a.defers) (w0 := w) ?_ fuel listed m a w hu hsz hsh (fun i hi => (hls i).2 hi) (fun i hi hlis => by have := (hls i).1 hlis; omega) (by rw [hLe]; exact start) rfl
          · intro hlt
            have h1 : (bars ops)[p + seg.length]? = r'.head? := by
              rw [List.head?_eq_getElem?, hr', List.getElem?_drop, Nat.add_zero]
            rw [bars_get, Array.getElem?_eq_getElem hlt] at h1
            exact hsp.2 _ _ h1.symm
          · intro fuel2 listed2 m2 a2' w2 u1 u2 u3 u4 u5 u6 u7
            rw [y2, y4] at u5
            rw [y3] at u6
            rw [hr'] at e hQ
            refine ih (p + seg.length) fuel2 listed2 m2 f' h' w2 a2' e hqs u5.hr (u5.tight ht) u6 (hro.mono u5.le) u1 u2 u3 u4 ?_
            intro r2 m3 w3 a3 q1 q2 q3 q4
            exact hQ r2 m3 w3 a3 q1 (u5.trans q2) q3 (q4.trans u7)
theorem draw_ok (hc : CallOK P call) (hse : ExecOK P self) : DrawOK P call self := by
  intro ops ro F Q m f h w a hok e hr ht hf hro hQ
  have hd : (bars ops).drop 0 = bars ops := rfl
  refine draw_walk hc hse (tmpsOk_sane hok) (Nat.succ ops.size) 0 ops.size (Array.replicate ops.size false) m f h w a (by rw [hd]; exact e) (Nat.zero_le _) hr ht hf hro ?_ (by simp) (fun j o hj => absurd hj listed_none) (fun i => ⟨fun hi => absurd hi listed_none, fun hi => by omega⟩) (by rw [hd]; exact hQ)
  unfold unl
  exact Nat.le_trans List.countP_le_length (by simp)
end Go.X

/-
  Ends of a call that are one: equality of values, of objects, of heaps.
-/
namespace Go.X

theorem eqBytes_eq : ∀ {s t : List UInt8}, eqBytes s t = true → s = t := by
  intro s
  induction s with
  | nil => intro t e; cases t with | nil => rfl | cons _ _ => cases e
  | cons a s ih =>
    intro t e
    cases t with
    | nil => cases e
    | cons b t =>
      simp only [eqBytes, Bool.and_eq_true] at e
      have h1 : a.toNat = b.toNat := by have := e.1; rw [T.nbeq] at this; simpa using this
      rw [ih e.2, UInt8.toNat_inj.1 h1]
mutual
theorem eqV_eq : ∀ {a b : LV}, eqV a b = true → a = b := by
  intro a b e
  cases a <;> cases b <;> simp only [eqV, Bool.and_eq_true, beq_iff_eq, decide_eq_true_eq, T.nbeq] at e <;> first
    | rfl
    | (cases e; done)
    | (subst e; rfl)
    | (obtain ⟨rfl, rfl⟩ := e; rfl)
    | (rw [eqBytes_eq e])
    | (obtain ⟨⟨⟨⟨⟨rfl, rfl⟩, rfl⟩, rfl⟩, rfl⟩, rfl⟩ := e; rfl)
    | (obtain ⟨⟨rfl, h1⟩, h2⟩ := e; rw [eqVs_eq h1, eqVs_eq h2])
    | (rw [eqVs_eq e])
theorem eqVs_eq : ∀ {a b : List LV}, eqVs a b = true → a = b := by
  intro a b e
  cases a with
  | nil => cases b with | nil => rfl | cons _ _ => simp [eqVs] at e
  | cons x s =>
    cases b with
    | nil => simp [eqVs] at e
    | cons y t =>
      simp only [eqVs, Bool.and_eq_true] at e
      rw [eqV_eq e.1, eqVs_eq e.2]
end
theorem eqOf_eq {α : Type} {f : α → α → Bool} (hf : ∀ {a b}, f a b = true → a = b) {a b : Option α} (e : eqOf f a b = true) : a = b := by
  cases a <;> cases b <;> simp only [eqOf] at e <;> first | rfl | (cases e; done) | (rw [hf e])
theorem eqT_eq {α : Type} {f : α → α → Bool} (hf : ∀ {a b}, f a b = true → a = b) : ∀ {a b : T α}, eqT f a b = true → a = b := by
  intro a
  induction a with
  | leaf => intro b e; cases b with | leaf => rfl | node _ _ _ => cases e
  | node l v r ih1 ih2 =>
    intro b e
    cases b with
    | leaf => cases e
    | node l' v' r' =>
      simp only [eqT, Bool.and_eq_true] at e
      rw [ih1 e.1.1, ih2 e.2, eqOf_eq hf e.1.2]
theorem eqEs_eq : ∀ {a b : List (LV × LV × Nat)}, eqEs a b = true → a = b := by
  intro a
  induction a with
  | nil => intro b e; cases b with | nil => rfl | cons _ _ => cases e
  | cons x s ih =>
    intro b e
    cases b with
    | nil => cases e
    | cons y t =>
      obtain ⟨x1, x2, x3⟩ := x
      obtain ⟨y1, y2, y3⟩ := y
      simp only [eqEs, Bool.and_eq_true, T.nbeq, decide_eq_true_eq] at e
      obtain ⟨⟨⟨h1, h2⟩, h3⟩, h4⟩ := e
      rw [eqV_eq h1, eqV_eq h2, h3, ih h4]
theorem eqNs_eq : ∀ {a b : List Nat}, eqNs a b = true → a = b := by
  intro a
  induction a with
  | nil => intro b e; cases b with | nil => rfl | cons _ _ => cases e
  | cons x s ih =>
    intro b e
    cases b with
    | nil => cases e
    | cons y t =>
      simp only [eqNs, Bool.and_eq_true, T.nbeq, decide_eq_true_eq] at e
      rw [e.1, ih e.2]
theorem eqO_eq {a b : LO} (e : eqO a b = true) : a = b := by
  cases a <;> cases b <;> simp only [eqO, Bool.and_eq_true, T.nbeq, decide_eq_true_eq] at e <;> first
    | rfl
    | (cases e; done)
    | (rw [eqT_eq eqV_eq e.1, e.2]; done)
    | (rw [eqEs_eq e.1, e.2]; done)
    | (rw [eqBytes_eq e.1, e.2]; done)
    | (obtain ⟨⟨⟨h1, rfl⟩, h3⟩, rfl⟩ := e
       rw [eqOf_eq (fun {a b} h => by rw [T.nbeq] at h; simpa using h) h1, eqNs_eq h3])
theorem eqR_eq {a b : LV × H} (e : eqR a b = true) : a.1 = b.1 ∧ a.2.next = b.2.next ∧ a.2.objs = b.2.objs := by
  simp only [eqR, Bool.and_eq_true, T.nbeq, decide_eq_true_eq] at e
  exact ⟨eqV_eq e.1.1, e.1.2, eqT_eq eqO_eq e.2⟩
/-- A step whose log is longer. -/
theorem Step.more {m m' : M} {h h' : H} {w w' : World} (s : Step m h w m' h' w') {l : List Nat} (hl : ∀ i, i ∈ h'.log → i ∈ l) : Step m h w m' ⟨h'.objs, h'.next, l⟩ w' where
  mle := s.mle
  le := s.le
  next := s.next
  hr := ⟨s.hr.wf, s.hr.obj, s.hr.blk, s.hr.inj, s.hr.park⟩
  log i hi := hl i (s.log i hi)
  same i hi hn := s.same i hi fun h => hn (hl i h)
  dead := s.dead
  fresh i b d n h1 h2 h3 := (s.fresh i b d n h1 h2 h3).imp id fun ⟨j, d0, n0, a, b, c, d⟩ => ⟨j, d0, n0, a, b, hl j c, d⟩
  size := s.size
  frame b hb hc := s.frame b hb fun i d n h1 h2 h3 => hc i d n h1 h2 (hl i h3)
  os := s.os
  tape := s.tape
  output := s.output
theorem mergeL_spec : ∀ {l : List (LV × H)} {a b : LV × H}, mergeL a l = some b → b.1 = a.1 ∧ b.2.next = a.2.next ∧ b.2.objs = a.2.objs ∧ (∀ i, i ∈ a.2.log → i ∈ b.2.log) ∧ ∀ c ∈ l, c.1 = b.1 ∧ c.2.next = b.2.next ∧ c.2.objs = b.2.objs ∧ ∀ i, i ∈ c.2.log → i ∈ b.2.log := by
  intro l
  induction l with
  | nil => intro a b e; simp only [mergeL, Option.some.injEq] at e; subst e; exact ⟨rfl, rfl, rfl, fun _ h => h, fun _ h => by cases h⟩
  | cons x l ih =>
    intro a b e
    simp only [mergeL] at e
    cases hx : eqR a x with
    | false => simp [hx] at e
    | true =>
      simp only [hx, cond_true] at e
      obtain ⟨e1, e2, e3⟩ := eqR_eq hx
      obtain ⟨i1, i2, i3, i4, i5⟩ := ih e
      refine ⟨i1, i2, i3, fun i hi => i4 i (List.mem_append_left _ hi), fun c hc => ?_⟩
      rcases List.mem_cons.1 hc with rfl | hc
      · exact ⟨by rw [i1, e1], by rw [i2]; exact e2.symm, by rw [i3]; exact e3.symm, fun i hi => i4 i (List.mem_append_right _ hi)⟩
      · exact i5 c hc
theorem merge_post {x : R (LV × H)} {m : M} {h : H} {w : World} {V : Value} {w' : World} (c : CallPost x m h w V w') : CallPost (merge x) m h w V w' := by
  obtain ⟨r, m', c1, c2, c3⟩ := c
  cases x with
  | no => exact c1.elim
  | one b => exact ⟨r, m', c1, c2, c3⟩
  | many l =>
    cases l with
    | nil => cases c1
    | cons a l =>
      simp only [merge]
      cases hm : mergeL a l with
      | none => exact ⟨r, m', c1, c2, c3⟩
      | some b =>
        obtain ⟨i1, i2, i3, i4, i5⟩ := mergeL_spec hm
        have hr : r.1 = b.1 ∧ r.2.next = b.2.next ∧ r.2.objs = b.2.objs ∧ ∀ i, i ∈ r.2.log → i ∈ b.2.log := by
          rcases List.mem_cons.1 c1 with rfl | hc
          · exact ⟨i1.symm, i2.symm, i3.symm, i4⟩
          · exact i5 r hc
        refine ⟨b, m', rfl, ?_, by rw [← hr.1]; exact c3⟩
        have := c2.more hr.2.2.2
        rw [hr.2.1, hr.2.2.1] at this
        exact this
theorem merge_no {x : R (LV × H)} (e : merge x ≠ .no) : x ≠ .no := by
  rintro rfl; exact e rfl
theorem merge_ok {P : Program} {call : FuncId → List LV → H → R (LV × H)} (hc : CallOK P call) : CallOK P fun k args h => merge (call k args h) := by
  intro k args h e m w A hr ht ha
  rcases hc k args h (merge_no e) m w A hr ht ha with ⟨c1, c2⟩ | ⟨c0, V, w', c1, c2⟩
  · exact .inl ⟨c1, c2.mono fun ex w' ⟨V, h1, h2⟩ => ⟨V, h1, merge_post h2⟩⟩
  · exact .inr ⟨c0, V, w', c1, merge_post c2⟩
end Go.X

/-
  The executor is sound: what it says of a call holds in every world.
-/
namespace Go.X
variable {P : Program}

theorem deep_ok (hm : P.follows .mixedOrders = true) (hng : ∀ (k : Nat) (fn : Func), P.funcs[k]? = some fn → (fn.name == "runtime.NumGoroutine") = false) {exts sums : FuncId → List LV → Option LV} (hx : ExtsOK P exts) (hsum : SumsOK P sums) :
    ∀ d, ExecOK P (deep P exts sums d).exec ∧ CallOK P (deep P exts sums d).call := by
  intro d
  induction d with
  | zero => exact ⟨fun ro c s e => absurd rfl e, fun k args h e => absurd rfl e⟩
  | succ d ih => exact ⟨exec_ok hm (draw_ok ih.2 ih.1) ih.2 ih.1, merge_ok (call_ok hng hx hsum ih.1)⟩
theorem HR.empty (w : World) : HR (fun _ => none) H.empty w where
  wf _ _ := rfl
  obj _ _ _ _ h := by cases h
  blk _ _ _ _ h := by cases h
  inj _ _ _ _ _ _ _ h := by cases h
  park _ _ _ _ _ _ _ h := by cases h
/-- A call on values without places, in every world. -/
theorem calls_of_deep (hm : P.follows .mixedOrders = true) (hng : ∀ (k : Nat) (fn : Func), P.funcs[k]? = some fn → (fn.name == "runtime.NumGoroutine") = false) {exts sums : FuncId → List LV → Option LV} (hx : ExtsOK P exts) (hsum : SumsOK P sums)
    {k : FuncId} {fn : Func} (hf : P.funcs[k]? = some fn) (hb : fn.body.isNone = false) {args : List LV} {v : LV} {d : Nat} (e : ∀ r, ((deep P exts sums d).call k args H.empty).has r → r.1 = v) (hne : (deep P exts sums d).call k args H.empty ≠ .no)
    {A : Array Value} (ha : VRs (fun _ => none) args A.toList) {V : Value} (hV : ∀ m V', VR m v V' → V' = V) (w : World) : Calls P k A w fun e w' => e = .returned V ∧ RowKit.Below w.heap.size w w' := by
  have hcall := (deep_ok hm hng hx hsum d).2 k args H.empty hne (fun _ => none) w A (HR.empty w) (fun _ _ => rfl) ha
  have hent := enter_run (hng k fn hf) hf hb A w
  rcases hcall with ⟨_, c2⟩ | ⟨_, V', w', c1, _⟩
  · refine callsIn_wide.1 (c2.mono ?_)
    rintro ex w' ⟨V', rfl, r, m', r1, r2, r3⟩
    rw [e r r1] at r3
    rw [hV m' V' r3]
    exact ⟨rfl, r2.os, r2.tape, r2.output, r2.size, fun b hb' => r2.frame b hb' fun i d n h => by cases h⟩
  · rw [hent] at c1; cases c1
end Go.X

/-
  What is known of calls, with the objects that they take and make. Definitions alone.
-/
noncomputable section
namespace Go.X

/-- An object as a list of cells. -/
inductive MO where
  | row (l : List LV)
  | map (es : List (LV × LV × Nat)) (clock : Nat)
  | dead
/-- What is known of a call: of which function, with which values, on which objects (numbered from 0); what it returns, which objects it changes, which ones it makes. -/
structure Ent where
  k : FuncId
  args : List LV
  objs : List MO
  val : LV
  chg : List (Nat × MO)
  news : List MO

/-! ### Objects by other numbers -/
def re1 (x : Option Nat) (f : Nat → LV) : Option LV := match x with
  | some j => some (f j)
  | none => none
def re2 (x y : Option (List LV)) (f : List LV → List LV → LV) : Option LV := match x, y with
  | some a, some b => some (f a b)
  | _, _ => none
def reL (x : Option (List LV)) (f : List LV → LV) : Option LV := match x with
  | some a => some (f a)
  | none => none
def reC (x : Option LV) (y : Option (List LV)) : Option (List LV) := match x, y with
  | some a, some b => some (a :: b)
  | _, _ => none
mutual
def reV (σ : Nat → Option Nat) : LV → Option LV
  | .ptr i o => re1 (σ i) fun j => .ptr j o
  | .slice i a b c d x => re1 (σ i) fun j => .slice j a b c d x
  | .map i => re1 (σ i) fun j => .map j
  | .func f a c => re2 (reVs σ a) (reVs σ c) fun a c => .func f a c
  | .yield _ => none
  | .iface _ _ => none
  | .agg l => reL (reVs σ l) .agg
  | .tuple l => reL (reVs σ l) .tuple
  | .bool b => some (.bool b)
  | .int k n => some (.int k n)
  | .str s => some (.str s)
  | .nilptr => some .nilptr
  | .nilslice => some .nilslice
  | .nilmap => some .nilmap
  | .nilfunc => some .nilfunc
  | .niliface => some .niliface
def reVs (σ : Nat → Option Nat) : List LV → Option (List LV)
  | [] => some []
  | v :: l => reC (reV σ v) (reVs σ l)
end
def reE (k v : Option LV) (n : Nat) (r : Option (List (LV × LV × Nat))) : Option (List (LV × LV × Nat)) := match k, v, r with
  | some k, some v, some r => some ((k, v, n) :: r)
  | _, _, _ => none
def reEs (σ : Nat → Option Nat) : List (LV × LV × Nat) → Option (List (LV × LV × Nat))
  | [] => some []
  | e :: l => reE (reV σ e.1) (reV σ e.2.1) e.2.2 (reEs σ l)
def rowOf (l : List LV) : LO := .row (T.sets .leaf 0 l) l.length
def MO.toLO : MO → LO
  | .row l => rowOf l
  | .map es k => .map es k
  | .dead => .dead
/-- An object, by other numbers. -/
def reM (σ : Nat → Option Nat) : MO → Option LO
  | .row l => match reVs σ l with
    | some l' => some (rowOf l')
    | none => none
  | .map es k => match reEs σ es with
    | some es' => some (.map es' k)
    | none => none
  | .dead => some .dead
/-- Is an object, by other numbers, that one? (or was it given up) -/
def isM (σ : Nat → Option Nat) (o : LO) : MO → Bool
  | .row l => match o with
    | .row c n => match c.slice 0 n with
      | some l0 => match reVs σ l0 with
        | some l' => eqVs l' l
        | none => false
      | none => false
    | _ => false
  | .map es k => match o with
    | .map es0 k0 => match reEs σ es0 with
      | some es' => eqEs es' es && Nat.beq k0 k
      | none => false
    | _ => false
  | .dead => true
/-- Is that object, by other numbers, an object? (or was it given up) -/
def fitsM (σ : Nat → Option Nat) (o : LO) : MO → Bool
  | .row l => match o with
    | .row c n => match c.slice 0 n with
      | some l0 => match reVs σ l with
        | some l' => eqVs l' l0
        | none => false
      | none => false
    | _ => false
  | .map es k => match o with
    | .map es0 k0 => match reEs σ es with
      | some es' => eqEs es' es0 && Nat.beq k k0
      | none => false
    | _ => false
  | .dead => true

/-! ### Which number stands for which -/
mutual
def idsV : LV → List Nat
  | .ptr i _ => [i]
  | .slice i _ _ _ _ _ => [i]
  | .map i => [i]
  | .func _ a c => idsVs a ++ idsVs c
  | .agg l => idsVs l
  | .tuple l => idsVs l
  | _ => []
def idsVs : List LV → List Nat
  | [] => []
  | v :: l => idsV v ++ idsVs l
end
def idsEs : List (LV × LV × Nat) → List Nat
  | [] => []
  | e :: l => idsV e.1 ++ (idsV e.2.1 ++ idsEs l)
def idsM : MO → List Nat
  | .row l => idsVs l
  | .map es _ => idsEs es
  | .dead => []
def idsO : LO → List Nat
  | .row c n => match c.slice 0 n with
    | some l => idsVs l
    | none => []
  | .map es _ => idsEs es
  | _ => []
def nth {α : Type} : List α → Nat → Option α
  | [], _ => none
  | a :: _, 0 => some a
  | _ :: l, n + 1 => nth l n
def build : List Nat → List Nat → List Nat → List Nat
  | p :: ps, a :: as, ρ => bif Nat.beq p ρ.length then build ps as (ρ ++ [a]) else build ps as ρ
  | _, _, ρ => ρ
def buildO (h : H) : List MO → Nat → List Nat → List Nat
  | [], _, ρ => ρ
  | .dead :: r, i, ρ => buildO h r (Nat.succ i) ρ
  | o :: r, i, ρ => match nth ρ i with
    | some j => match h.get j with
      | some x => buildO h r (Nat.succ i) (build (idsM o) (idsO x) ρ)
      | none => ρ
    | none => ρ
def fitsAll (σ : Nat → Option Nat) (h : H) : List MO → Nat → Bool
  | [], _ => true
  | o :: r, i => match σ i with
    | some j => match h.get j with
      | some x => bif fitsM σ x o then fitsAll σ h r (Nat.succ i) else false
      | none => false
    | none => false

/-! ### The heap behind a call -/
def putsM (σ : Nat → Option Nat) : List (Nat × MO) → H → Option H
  | [], h => some h
  | c :: r, h => match σ c.1, reM σ c.2 with
    | some j, some o => putsM σ r (h.put j o)
    | _, _ => none
def newsM (σ : Nat → Option Nat) : List MO → H → Option H
  | [], h => some h
  | o :: r, h => match reM σ o with
    | some x => newsM σ r (h.new x)
    | none => none
def putsI : List (Nat × MO) → H → H
  | [], h => h
  | c :: r, h => putsI r (h.put c.1 c.2.toLO)
def newsI : List MO → H → H
  | [], h => h
  | o :: r, h => newsI r (h.new o.toLO)
/-- The heap ahead of a call, and behind it. -/
def Ent.beg (e : Ent) : H := newsI e.objs .empty
def Ent.fin (e : Ent) : H := newsI e.news (putsI e.chg e.beg)
/-- By which number the objects of a call are known: those that it takes, those that it makes. -/
def afterN (ρ : List Nat) (n : Nat) (i : Nat) : Option Nat := match nth ρ i with
  | some j => some j
  | none => some (Nat.add n (Nat.sub i ρ.length))
def Ent.after (e : Ent) (σ : Nat → Option Nat) (h : H) : Option (LV × H) := match reV σ e.val with
  | some v => match putsM σ e.chg h with
    | some h1 => match newsM σ e.news h1 with
      | some h2 => some (v, h2)
      | none => none
    | none => none
  | none => none
def chgOk (n : Nat) : List (Nat × MO) → Bool
  | [] => true
  | c :: r => Nat.blt c.1 n && chgOk n r
/-- What is known of a call, of this one. -/
def Ent.use (e : Ent) (args : List LV) (h : H) : Option (LV × H) :=
  let ρ := buildO h e.objs 0 (build (idsVs e.args) (idsVs args) [])
  bif Nat.beq ρ.length e.objs.length && apartIds h.next ρ && chgOk ρ.length e.chg then match reVs (afterN ρ h.next) e.args with
    | some as => bif eqVs as args && fitsAll (afterN ρ h.next) h e.objs 0 then e.after (afterN ρ h.next) h else none
    | none => none
  else none
def memoOf : List Ent → FuncId → List LV → H → Option (LV × H)
  | [], _, _, _ => none
  | e :: r, k, args, h => bif Nat.beq k e.k then (match e.use args h with
    | some x => some x
    | none => memoOf r k args h) else memoOf r k args h

/-! ### The executor that knows of calls -/
def memoStep (memo : FuncId → List LV → H → Option (LV × H)) (k : FuncId) (args : List LV) (h : H) (x : R (LV × H)) : R (LV × H) := match memo k args h with
  | some r => .one r
  | none => x
def deepM (P : Program) (exts : FuncId → List LV → Option LV) (memo : FuncId → List LV → H → Option (LV × H)) (d : Nat) : Deep :=
  Nat.rec ⟨fun _ _ _ => .no, fun _ _ _ => .no⟩ (fun _ ih =>
    ⟨execStep P ih.call ih.exec, fun k args h => memoStep memo k args h (merge (callStep P exts (fun _ _ => none) ih.exec k args h))⟩) d

/-! ### What a run has made, by fewer objects -/
def selT : List Nat → Nat → T Nat → T Nat
  | [], _, t => t
  | i :: r, k, t => selT r (Nat.succ k) (t.set i k)
def selN (K : Nat) (t : T Nat) (i : Nat) : Option Nat := bif Nat.blt i K then some i else t.get i
def chgIs (σ : Nat → Option Nat) (h : H) : List (Nat × MO) → Bool
  | [] => true
  | c :: r => match h.get c.1 with
    | some o => isM σ o c.2 && chgIs σ h r
    | none => false
def newsIs (σ : Nat → Option Nat) (h : H) : List Nat → List MO → Bool
  | [], [] => true
  | i :: r, m :: ms => match h.get i with
    | some o => isM σ o m && newsIs σ h r ms
    | none => false
  | _, _ => false
def memN (l : List Nat) (i : Nat) : Bool := match l with
  | [] => false
  | j :: r => bif Nat.beq j i then true else memN r i
def nodupN : List Nat → Bool
  | [] => true
  | i :: r => bif memN r i then false else nodupN r
def logIn (K : Nat) (c : List Nat) : List Nat → Bool
  | [] => true
  | i :: r => bif Nat.blt i K then (bif memN c i then logIn K c r else false) else logIn K c r
def selOk (K n : Nat) : List Nat → Bool
  | [] => true
  | i :: r => bif Nat.ble K i then (bif Nat.blt i n then selOk K n r else false) else false
/-- Is that what a run has come to? -/
def Ent.is (e : Ent) (sel : List Nat) (x : R (LV × H)) : Bool := match x with
  | .one r =>
    let K := e.objs.length
    let σ := selN K (selT sel K .leaf)
    (match reV σ r.1 with
      | some v => eqV v e.val
      | none => false) && nodupN sel && selOk K r.2.next sel && nodupN (e.chg.map Prod.fst) && chgOk K e.chg && logIn K (e.chg.map Prod.fst) r.2.log && chgIs σ r.2 e.chg && newsIs σ r.2 sel e.news
  | _ => false
end Go.X
end

/-
  Objects by other numbers: what is related by one numbering is by the other.
-/
namespace Go.X

theorem re1_some {x : Option Nat} {f : Nat → LV} {v : LV} (e : re1 x f = some v) : ∃ j, x = some j ∧ v = f j := by
  cases x with
  | none => cases e
  | some j => exact ⟨j, rfl, (Option.some.inj e).symm⟩
theorem re2_some {x y : Option (List LV)} {f : List LV → List LV → LV} {v : LV} (e : re2 x y f = some v) : ∃ a b, x = some a ∧ y = some b ∧ v = f a b := by
  cases x with
  | none => cases e
  | some a => cases y with
    | none => cases e
    | some b => exact ⟨a, b, rfl, rfl, (Option.some.inj e).symm⟩
theorem reL_some {x : Option (List LV)} {f : List LV → LV} {v : LV} (e : reL x f = some v) : ∃ a, x = some a ∧ v = f a := by
  cases x with
  | none => cases e
  | some a => exact ⟨a, rfl, (Option.some.inj e).symm⟩
theorem reC_some {x : Option LV} {y : Option (List LV)} {v : List LV} (e : reC x y = some v) : ∃ a b, x = some a ∧ y = some b ∧ v = a :: b := by
  cases x with
  | none => cases e
  | some a => cases y with
    | none => cases e
    | some b => exact ⟨a, b, rfl, rfl, (Option.some.inj e).symm⟩
theorem reE_some {x y : Option LV} {n : Nat} {z : Option (List (LV × LV × Nat))} {v : List (LV × LV × Nat)} (e : reE x y n z = some v) : ∃ a b c, x = some a ∧ y = some b ∧ z = some c ∧ v = (a, b, n) :: c := by
  cases x with
  | none => cases e
  | some a => cases y with
    | none => cases e
    | some b => cases z with
      | none => cases e
      | some c => exact ⟨a, b, c, rfl, rfl, rfl, (Option.some.inj e).symm⟩

/-- What has a place has it by the other number, too. -/
def Via (σ : Nat → Option Nat) (m m' : M) : Prop := ∀ i j, σ i = some j → ∀ x, m i = some x → m' j = some x
def Bak (σ : Nat → Option Nat) (m m' : M) : Prop := ∀ i j, σ i = some j → ∀ x, m' j = some x → m i = some x
variable {σ : Nat → Option Nat} {m m' : M}

mutual
theorem VR.re (hs : Via σ m m') {v v' : LV} {V : Value} (e : reV σ v = some v') (h : VR m v V) : VR m' v' V := by
  cases h with
  | bool b => simp only [reV, Option.some.injEq] at e; subst e; exact .bool b
  | int k n => simp only [reV, Option.some.injEq] at e; subst e; exact .int k n
  | str s => simp only [reV, Option.some.injEq] at e; subst e; exact .str s
  | ptr off h => simp only [reV] at e; obtain ⟨j, hj, rfl⟩ := re1_some e; exact .ptr off (hs _ _ hj _ h)
  | nilptr => simp only [reV, Option.some.injEq] at e; subst e; exact .nilptr
  | slice h hc hx hl ho => simp only [reV] at e; obtain ⟨j, hj, rfl⟩ := re1_some e; exact .slice (hs _ _ hj _ h) hc hx hl ho
  | nilslice => simp only [reV, Option.some.injEq] at e; subst e; exact .nilslice
  | map h => simp only [reV] at e; obtain ⟨j, hj, rfl⟩ := re1_some e; exact .map (hs _ _ hj _ h)
  | nilmap => simp only [reV, Option.some.injEq] at e; subst e; exact .nilmap
  | func h1 h2 => simp only [reV] at e; obtain ⟨a, b, e1, e2, rfl⟩ := re2_some e; exact .func (VRs.re hs e1 h1) (VRs.re hs e2 h2)
  | nilfunc => simp only [reV, Option.some.injEq] at e; subst e; exact .nilfunc
  | yield h => simp only [reV] at e; cases e
  | iface h => simp only [reV] at e; cases e
  | niliface => simp only [reV, Option.some.injEq] at e; subst e; exact .niliface
  | agg h => simp only [reV] at e; obtain ⟨a, e1, rfl⟩ := reL_some e; exact .agg (VRs.re hs e1 h)
  | tuple h => simp only [reV] at e; obtain ⟨a, e1, rfl⟩ := reL_some e; exact .tuple (VRs.re hs e1 h)
theorem VRs.re (hs : Via σ m m') {l l' : List LV} {L : List Value} (e : reVs σ l = some l') (h : VRs m l L) : VRs m' l' L := by
  cases h with
  | nil => simp only [reVs, Option.some.injEq] at e; subst e; exact .nil
  | cons h t => simp only [reVs] at e; obtain ⟨a, b, e1, e2, rfl⟩ := reC_some e; exact .cons (VR.re hs e1 h) (VRs.re hs e2 t)
end
mutual
theorem VR.un (hs : Bak σ m m') : ∀ {v v' : LV} {V : Value}, reV σ v = some v' → VR m' v' V → VR m v V := by
  intro v v' V e h
  cases v with
  | bool b => simp only [reV, Option.some.injEq] at e; subst e; cases h; exact .bool _
  | int k n => simp only [reV, Option.some.injEq] at e; subst e; cases h; exact .int _ _
  | str s => simp only [reV, Option.some.injEq] at e; subst e; cases h; exact .str _
  | ptr i off => simp only [reV] at e; obtain ⟨j, hj, rfl⟩ := re1_some e; cases h with | ptr _ h => exact .ptr off (hs _ _ hj _ h)
  | nilptr => simp only [reV, Option.some.injEq] at e; subst e; cases h; exact .nilptr
  | slice => simp only [reV] at e; obtain ⟨j, hj, rfl⟩ := re1_some e; cases h with | slice h hc hx hl ho => exact .slice (hs _ _ hj _ h) hc hx hl ho
  | nilslice => simp only [reV, Option.some.injEq] at e; subst e; cases h; exact .nilslice
  | map i => simp only [reV] at e; obtain ⟨j, hj, rfl⟩ := re1_some e; cases h with | map h => exact .map (hs _ _ hj _ h)
  | nilmap => simp only [reV, Option.some.injEq] at e; subst e; cases h; exact .nilmap
  | func f a c => simp only [reV] at e; obtain ⟨a', b', e1, e2, rfl⟩ := re2_some e; cases h with | func h1 h2 => exact .func (VRs.un hs e1 h1) (VRs.un hs e2 h2)
  | nilfunc => simp only [reV, Option.some.injEq] at e; subst e; cases h; exact .nilfunc
  | yield l => simp only [reV] at e; cases e
  | iface t v => simp only [reV] at e; cases e
  | niliface => simp only [reV, Option.some.injEq] at e; subst e; cases h; exact .niliface
  | agg l => simp only [reV] at e; obtain ⟨a, e1, rfl⟩ := reL_some e; cases h with | agg h => exact .agg (VRs.un hs e1 h)
  | tuple l => simp only [reV] at e; obtain ⟨a, e1, rfl⟩ := reL_some e; cases h with | tuple h => exact .tuple (VRs.un hs e1 h)
theorem VRs.un (hs : Bak σ m m') : ∀ {l l' : List LV} {L : List Value}, reVs σ l = some l' → VRs m' l' L → VRs m l L := by
  intro l l' L e h
  cases l with
  | nil => simp only [reVs, Option.some.injEq] at e; subst e; cases h; exact .nil
  | cons v l => simp only [reVs] at e; obtain ⟨a, b, e1, e2, rfl⟩ := reC_some e; cases h with | cons h t => exact .cons (VR.un hs e1 h) (VRs.un hs e2 t)
end
theorem ERs.re (hs : Via σ m m') : ∀ {l l' : List (LV × LV × Nat)} {L : List MapEntry}, reEs σ l = some l' → ERs m l L → ERs m' l' L := by
  intro l
  induction l with
  | nil => intro l' L e h; simp only [reEs, Option.some.injEq] at e; subst e; cases h; exact .nil
  | cons x l ih =>
    intro l' L e h
    simp only [reEs] at e
    obtain ⟨a, b, c, e1, e2, e3, rfl⟩ := reE_some e
    cases h with
    | cons hk hv t => exact .cons (hk.re hs e1) (hv.re hs e2) (ih e3 t)
theorem ERs.un (hs : Bak σ m m') : ∀ {l l' : List (LV × LV × Nat)} {L : List MapEntry}, reEs σ l = some l' → ERs m' l' L → ERs m l L := by
  intro l
  induction l with
  | nil => intro l' L e h; simp only [reEs, Option.some.injEq] at e; subst e; cases h; exact .nil
  | cons x l ih =>
    intro l' L e h
    obtain ⟨x1, x2, x3⟩ := x
    simp only [reEs] at e
    obtain ⟨a, b, c, e1, e2, e3, rfl⟩ := reE_some e
    cases h with
    | cons hk hv t => exact .cons (hk.un hs e1) (hv.un hs e2) (ih e3 t)

/-- Of two objects: the same one, by other numbers. -/
def ReO (σ : Nat → Option Nat) (o o' : LO) : Prop := match o, o' with
  | .row c n, .row c' n' => n = n' ∧ ∀ i, i < n → ∃ x x', c.get i = some x ∧ c'.get i = some x' ∧ reV σ x = some x'
  | .map es k, .map es' k' => k = k' ∧ reEs σ es = some es'
  | .dead, .dead => True
  | _, _ => False
theorem OR.re (hs : Via σ m m') {o o' : LO} (e : ReO σ o o') {w : World} {b d n : Nat} (h : OR m w o b d n) : OR m' w o' b d n := by
  cases o <;> cases o' <;> simp only [ReO] at e
  · rename_i c k c' k'
    obtain ⟨rfl, e⟩ := e
    obtain ⟨cs, et, fz, h1, h2, h3, h4, h5⟩ := h
    refine ⟨cs, et, fz, h1, h2, h3, h4, fun i hi => ?_⟩
    obtain ⟨x, X, a1, a2, a3⟩ := h5 i hi
    obtain ⟨y, y', b1, b2, b3⟩ := e i hi
    rw [a1] at b1; cases b1
    exact ⟨y', X, b2, a2, a3.re hs b3⟩
  · trivial
  · obtain ⟨rfl, e⟩ := e
    obtain ⟨Es, h1, h2⟩ := h
    exact ⟨Es, h1, h2.re hs e⟩
theorem OR.un (hs : Bak σ m m') {o o' : LO} (e : ReO σ o o') {w : World} {b d n : Nat} (h : OR m' w o' b d n) : OR m w o b d n := by
  cases o <;> cases o' <;> simp only [ReO] at e
  · rename_i c k c' k'
    obtain ⟨rfl, e⟩ := e
    obtain ⟨cs, et, fz, h1, h2, h3, h4, h5⟩ := h
    refine ⟨cs, et, fz, h1, h2, h3, h4, fun i hi => ?_⟩
    obtain ⟨x, X, a1, a2, a3⟩ := h5 i hi
    obtain ⟨y, y', b1, b2, b3⟩ := e i hi
    rw [a1] at b2; cases b2
    exact ⟨y, X, b1, a2, a3.un hs b3⟩
  · trivial
  · obtain ⟨rfl, e⟩ := e
    obtain ⟨Es, h1, h2⟩ := h
    exact ⟨Es, h1, h2.un hs e⟩
theorem ReO.dead_l {o : LO} (h : ReO σ .dead o) : o = .dead := by cases o <;> simp only [ReO] at h; rfl
theorem ReO.dead_r {o : LO} (h : ReO σ o .dead) : o = .dead := by cases o <;> simp only [ReO] at h; rfl

theorem reVs_length : ∀ {l l' : List LV}, reVs σ l = some l' → l'.length = l.length := by
  intro l
  induction l with
  | nil => intro l' e; simp only [reVs, Option.some.injEq] at e; subst e; rfl
  | cons v l ih => intro l' e; simp only [reVs] at e; obtain ⟨a, b, e1, e2, rfl⟩ := reC_some e; simp [ih e2]
theorem reVs_get : ∀ {l l' : List LV}, reVs σ l = some l' → ∀ (i : Nat) (x : LV), l[i]? = some x → ∃ x', l'[i]? = some x' ∧ reV σ x = some x' := by
  intro l
  induction l with
  | nil => intro l' _ i x hx; simp at hx
  | cons v l ih =>
    intro l' e i x hx
    simp only [reVs] at e
    obtain ⟨a, b, e1, e2, rfl⟩ := reC_some e
    cases i with
    | zero => simp at hx; subst hx; exact ⟨a, by simp, e1⟩
    | succ i => simp at hx; obtain ⟨x', h1, h2⟩ := ih e2 i x hx; exact ⟨x', by simpa using h1, h2⟩
theorem row_get (l : List LV) {i : Nat} (h : i < l.length) : (T.sets .leaf 0 l : T LV).get i = l[i]? := by
  rw [T.get_sets, if_pos ⟨Nat.zero_le _, by omega⟩]; simp
theorem reM_ok {o : MO} {o' : LO} (e : reM σ o = some o') : ReO σ o.toLO o' := by
  cases o with
  | row l =>
    simp only [reM] at e
    cases hl : reVs σ l with
    | none => simp [hl] at e
    | some l' =>
      simp only [hl, Option.some.injEq] at e; subst e
      have hn := reVs_length hl
      refine ⟨hn.symm, fun i hi => ?_⟩
      obtain ⟨x', h1, h2⟩ := reVs_get hl i l[i] (List.getElem?_eq_getElem hi)
      exact ⟨l[i], x', by rw [row_get l hi]; exact List.getElem?_eq_getElem hi, by rw [row_get l' (by omega)]; exact h1, h2⟩
  | map es k =>
    simp only [reM] at e
    cases hl : reEs σ es with
    | none => simp [hl] at e
    | some l' => simp only [hl, Option.some.injEq] at e; subst e; exact ⟨rfl, hl⟩
  | dead => simp only [reM, Option.some.injEq] at e; subst e; trivial
theorem isM_ok {o : LO} {mo : MO} (e : isM σ o mo = true) : mo.toLO = .dead ∨ ReO σ o mo.toLO := by
  cases mo with
  | dead => exact .inl rfl
  | row l =>
    right
    cases o <;> simp only [isM] at e <;> (try (cases e; done))
    rename_i c n
    cases hs : c.slice 0 n with
    | none => simp [hs] at e
    | some l0 =>
      simp only [hs] at e
      cases hl : reVs σ l0 with
      | none => simp [hl] at e
      | some l' =>
        simp only [hl] at e
        have := eqVs_eq e; subst this
        obtain ⟨s1, s2⟩ := T.slice_some hs
        have hn := reVs_length hl
        refine ⟨by omega, fun i hi => ?_⟩
        have hg := s2 i hi
        rw [Nat.zero_add] at hg
        obtain ⟨x', h1, h2⟩ := reVs_get hl i l0[i] (List.getElem?_eq_getElem (by omega))
        exact ⟨l0[i], x', by rw [hg]; exact List.getElem?_eq_getElem (by omega), by rw [row_get l' (by omega)]; exact h1, h2⟩
  | map es k =>
    right
    cases o <;> simp only [isM] at e <;> (try (cases e; done))
    rename_i es0 k0
    cases hl : reEs σ es0 with
    | none => simp [hl] at e
    | some l' =>
      simp only [hl, Bool.and_eq_true, T.nbeq, decide_eq_true_eq] at e
      obtain ⟨e1, rfl⟩ := e
      have := eqEs_eq e1; subst this
      exact ⟨rfl, hl⟩
theorem fitsM_ok {o : LO} {mo : MO} (e : fitsM σ o mo = true) : mo.toLO = .dead ∨ ReO σ mo.toLO o := by
  cases mo with
  | dead => exact .inl rfl
  | row l =>
    right
    cases o <;> simp only [fitsM] at e <;> (try (cases e; done))
    rename_i c n
    cases hs : c.slice 0 n with
    | none => simp [hs] at e
    | some l0 =>
      simp only [hs] at e
      cases hl : reVs σ l with
      | none => simp [hl] at e
      | some l' =>
        simp only [hl] at e
        have := eqVs_eq e; subst this
        obtain ⟨s1, s2⟩ := T.slice_some hs
        have hn := reVs_length hl
        refine ⟨by omega, fun i hi => ?_⟩
        have hg := s2 i (by omega)
        rw [Nat.zero_add] at hg
        obtain ⟨x', h1, h2⟩ := reVs_get hl i l[i] (List.getElem?_eq_getElem hi)
        exact ⟨l[i], x', by rw [row_get l hi]; exact List.getElem?_eq_getElem hi, by rw [hg]; exact h1, h2⟩
  | map es k =>
    right
    cases o <;> simp only [fitsM] at e <;> (try (cases e; done))
    rename_i es0 k0
    cases hl : reEs σ es with
    | none => simp [hl] at e
    | some l' =>
      simp only [hl, Bool.and_eq_true, T.nbeq, decide_eq_true_eq] at e
      obtain ⟨e1, rfl⟩ := e
      have := eqEs_eq e1; subst this
      exact ⟨rfl, hl⟩
end Go.X

/-
  A call on some of the objects, by numbers of their own, is a call on all of them.
-/
namespace Go.X
variable {σ : Nat → Option Nat} {m : M} {w w' : World}

/-- The map of the objects that are taken. -/
def pull (σ : Nat → Option Nat) (K : Nat) (m : M) : M := fun i => if i < K then (match σ i with | some j => m j | none => none) else none
theorem pull_some {K i : Nat} {x : Nat × Nat × Nat} (h : pull σ K m i = some x) : i < K ∧ ∃ j, σ i = some j ∧ m j = some x := by
  unfold pull at h
  by_cases hi : i < K
  · rw [if_pos hi] at h
    cases hs : σ i with
    | none => simp [hs] at h
    | some j => simp only [hs] at h; exact ⟨hi, j, rfl, h⟩
  · rw [if_neg hi] at h; cases h
theorem pull_of {K i j : Nat} (hi : i < K) (hs : σ i = some j) : pull σ K m i = m j := by
  unfold pull; rw [if_pos hi, hs]
theorem pull_ge {K i : Nat} (hi : K ≤ i) : pull σ K m i = none := by
  unfold pull; rw [if_neg (by omega)]

/-- h0, h1: the few objects ahead and behind; H0, H1: all of them; tch: the old ones that may have been written. -/
structure Tr (σ : Nat → Option Nat) (h0 h1 H0 H1 : H) (tch : Nat → Prop) : Prop where
  dom : ∀ i, i < h0.next → ∃ j, σ i = some j ∧ j < H0.next
  alive : ∀ i j, i < h0.next → σ i = some j → H0.get j = some .dead → h0.get i = some .dead
  le : h0.next ≤ h1.next
  inj : ∀ i i' j, σ i = some j → σ i' = some j → i < h1.next → i' < h1.next → i = i'
  new : ∀ i j, σ i = some j → h0.next ≤ i → i < h1.next → H0.next ≤ j ∧ j < H1.next
  src : ∀ j, H0.next ≤ j → j < H1.next → ∃ i, h0.next ≤ i ∧ i < h1.next ∧ σ i = some j
  tlog : ∀ i, i < h0.next → i ∈ h1.log → tch i
  tlt : ∀ i, tch i → i < h0.next
  out : ∀ i j, σ i = some j → (tch i ∨ (h0.next ≤ i ∧ i < h1.next)) → ∃ o o', h1.get i = some o ∧ H1.get j = some o' ∧ (o' = .dead ∨ ReO σ o o')
  keep : ∀ j, j < H0.next → (∀ i, tch i → σ i ≠ some j) → H1.get j = H0.get j
  wf : ∀ j, H1.next ≤ j → H1.get j = none
  next : H0.next ≤ H1.next
  log1 : ∀ j, j ∈ H0.log → j ∈ H1.log
  log2 : ∀ i j, tch i → σ i = some j → j ∈ H1.log
open Classical in
theorem Tr.step {h0 h1 H0 H1 : H} {tch : Nat → Prop} (t : Tr σ h0 h1 H0 H1 tch) (tm : Tight m H0) (hr : HR m H0 w) {m1 : M} (hr0 : HR (pull σ h0.next m) h0 w) (st : Step (pull σ h0.next m) h0 w m1 h1 w') :
    ∃ m', Step m H0 w m' H1 w' ∧ Via σ m1 m' := by
  let P : Nat → Nat → Prop := fun j i => h0.next ≤ i ∧ i < h1.next ∧ σ i = some j
  let m' : M := fun j => if j < H0.next then m j else if h : ∃ i, P j i then m1 (Classical.choose h) else none
  have lo : ∀ j, j < H0.next → m' j = m j := fun j hj => if_pos hj
  have newi : ∀ i j, h0.next ≤ i → i < h1.next → σ i = some j → m' j = m1 i := by
    intro i j h2 h3 h4
    have hj := t.new i j h4 h2 h3
    have hex : ∃ i, P j i := ⟨i, h2, h3, h4⟩
    have h5 : m' j = m1 (Classical.choose hex) := by
      show (if j < H0.next then m j else if h : ∃ i, P j i then m1 (Classical.choose h) else none) = _
      rw [if_neg (by omega), dif_pos hex]
    rw [h5]
    have hc := Classical.choose_spec hex
    rw [t.inj _ i j hc.2.2 h4 hc.2.1 h3]
  have oldi : ∀ i j, i < h0.next → σ i = some j → m1 i = m j ∧ j < H0.next := by
    intro i j hi hs
    obtain ⟨j', e1, e2⟩ := t.dom i hi
    rw [hs] at e1; cases e1
    exact ⟨by rw [st.mle i (.inl hi), pull_of hi hs], e2⟩
  have bigi : ∀ i, h1.next ≤ i → m1 i = none := fun i hi => by rw [st.mle i (.inr hi)]; exact pull_ge (Nat.le_trans t.le hi)
  have via : Via σ m1 m' := by
    intro i j hs x hx
    by_cases h2 : i < h0.next
    · obtain ⟨e1, e2⟩ := oldi i j h2 hs
      rw [lo j e2, ← e1]; exact hx
    · by_cases h3 : i < h1.next
      · rw [newi i j (by omega) h3 hs]; exact hx
      · rw [bigi i (by omega)] at hx; cases hx
  have hi_ : ∀ j, H1.next ≤ j → m' j = m j := by
    intro j hj
    have hn : ¬ ∃ i, P j i := by
      rintro ⟨i, h2, h3, h4⟩
      have := t.new i j h4 h2 h3; omega
    show (if j < H0.next then m j else if h : ∃ i, P j i then m1 (Classical.choose h) else none) = _
    rw [dif_neg hn]
    by_cases h2 : j < H0.next
    · rw [if_pos h2]
    · rw [if_neg h2, tm j (by omega)]
  have le : m.le m' := by
    intro i x hx
    by_cases h2 : i < H0.next
    · rw [lo i h2]; exact hx
    · rw [tm i (by omega)] at hx; cases hx
  -- where a new one comes from
  have nsrc : ∀ j b d n, H0.next ≤ j → j < H1.next → m' j = some (b, d, n) → ∃ i, h0.next ≤ i ∧ i < h1.next ∧ σ i = some j ∧ m1 i = some (b, d, n) := by
    intro j b d n h2 h3 hm
    obtain ⟨i, a1, a2, a3⟩ := t.src j h2 h3
    exact ⟨i, a1, a2, a3, by rw [← newi i j a1 a2 a3]; exact hm⟩
  -- a live object that no touched one stands for keeps its block
  have block : ∀ j b d n, m j = some (b, d, n) → j < H0.next → H0.get j ≠ some .dead → (∀ i, tch i → σ i ≠ some j) → w'.heap[b]? = w.heap[b]? := by
    intro j b d n hm hj hd hno
    refine st.frame b (hr.blk j b d n hm) fun i d' n' hp hi hl => ?_
    obtain ⟨_, j', e1, e2⟩ := pull_some hp
    apply Classical.byContradiction
    intro hne
    obtain ⟨j'', f1, f2⟩ := t.dom i hi
    rw [e1] at f1; cases f1
    have ha : H0.get j' ≠ some .dead := fun h => hne (t.alive i j' hi e1 h)
    have := hr.inj j' j b d' n' d n e2 hm f2 hj ha hd
    subst this
    exact hno i (t.tlog i hi hl) e1
  -- live behind the call
  have outAlive : ∀ i j, σ i = some j → (tch i ∨ (h0.next ≤ i ∧ i < h1.next)) → H1.get j ≠ some .dead → h1.get i ≠ some .dead := by
    intro i j hs hto hd he
    obtain ⟨o, o', a1, a2, a3⟩ := t.out i j hs hto
    rw [he] at a1; cases a1
    apply hd; rw [a2]
    rcases a3 with rfl | a3
    · rfl
    · rw [a3.dead_l]
  have deadF : ∀ j, j < H0.next → H0.get j = some .dead → H1.get j = some .dead := by
    intro j hj hd
    by_cases hto : ∃ i, tch i ∧ σ i = some j
    · obtain ⟨i, h2, h3⟩ := hto
      have hi := t.tlt i h2
      have h4 := st.dead i hi (t.alive i j hi h3 hd)
      obtain ⟨o, o', a1, a2, a3⟩ := t.out i j h3 (.inl h2)
      rw [h4] at a1; cases a1
      rw [a2]
      rcases a3 with rfl | a3
      · rfl
      · rw [a3.dead_l]
    · rw [t.keep j hj fun i h2 h3 => hto ⟨i, h2, h3⟩]; exact hd
  have fresh' : ∀ (i j b d n : Nat), h0.next ≤ i → i < h1.next → m1 i = some (b, d, n) → w.heap.size ≤ b ∨ ∃ jj d0 n0, jj < H0.next ∧ m jj = some (b, d0, n0) ∧ jj ∈ H1.log ∧ H0.get jj ≠ some .dead ∧ (∃ ii, ii < h0.next ∧ σ ii = some jj ∧ h0.get ii ≠ some .dead) := by
    intro i j b d n h2 h3 hm
    rcases st.fresh i b d n hm h2 h3 with h4 | ⟨ii, d0, n0, b1, b2, b3, b4⟩
    · exact .inl h4
    · obtain ⟨_, jj, e1, e2⟩ := pull_some b2
      obtain ⟨j2, f1, f2⟩ := t.dom ii b1
      rw [e1] at f1; cases f1
      exact .inr ⟨jj, d0, n0, f2, e2, t.log2 ii jj (t.tlog ii b1 b3) e1, fun h => b4 (t.alive ii jj b1 e1 h), ii, b1, e1, b4⟩
  -- linked
  have linked : ∀ (j b d n : Nat), j < H1.next → m' j = some (b, d, n) → H1.get j ≠ some .dead → (∃ i, i < h1.next ∧ σ i = some j ∧ m1 i = some (b, d, n) ∧ h1.get i ≠ some .dead) ∨
      (j < H0.next ∧ m j = some (b, d, n) ∧ H0.get j ≠ some .dead ∧ (∀ i, tch i → σ i ≠ some j) ∧ ∀ i, i < h0.next → σ i = some j → h0.get i = some .dead) := by
    intro j b d n hj hm hd
    by_cases h2 : j < H0.next
    · rw [lo j h2] at hm
      by_cases hl : ∃ i, i < h0.next ∧ σ i = some j ∧ h1.get i ≠ some .dead
      · obtain ⟨i, a1, a2, a3⟩ := hl
        exact .inl ⟨i, Nat.lt_of_lt_of_le a1 t.le, a2, by rw [(oldi i j a1 a2).1]; exact hm, a3⟩
      · right
        have hno : ∀ i, tch i → σ i ≠ some j := fun i h3 h4 => hl ⟨i, t.tlt i h3, h4, outAlive i j h4 (.inl h3) hd⟩
        refine ⟨h2, hm, by rw [← t.keep j h2 hno]; exact hd, hno, fun i h3 h4 => ?_⟩
        apply Classical.byContradiction
        intro hne
        apply hl
        refine ⟨i, h3, h4, ?_⟩
        rw [st.same i h3 fun h5 => hno i (t.tlog i h3 h5) h4]; exact hne
    · obtain ⟨i, a1, a2, a3, a4⟩ := nsrc j b d n (by omega) hj hm
      exact .inl ⟨i, a2, a3, a4, outAlive i j a3 (.inr ⟨a1, a2⟩) hd⟩
  have mixed : ∀ (j1 j2 b d n d' n' : Nat), (∃ i, i < h1.next ∧ σ i = some j1 ∧ m1 i = some (b, d, n) ∧ h1.get i ≠ some .dead) → m' j1 = some (b, d, n) →
      (j2 < H0.next ∧ m j2 = some (b, d', n') ∧ H0.get j2 ≠ some .dead ∧ (∀ i, tch i → σ i ≠ some j2) ∧ ∀ i, i < h0.next → σ i = some j2 → h0.get i = some .dead) → j1 = j2 := by
    rintro j1 j2 b d n d' n' ⟨i, a1, a2, a3, a4⟩ hm1 ⟨c1, c2, c3, c4, c5⟩
    by_cases h2 : i < h0.next
    · obtain ⟨e1, e2⟩ := oldi i j1 h2 a2
      refine hr.inj j1 j2 b d n d' n' (by rw [← e1]; exact a3) c2 e2 c1 (fun h => a4 (st.dead i h2 (t.alive i j1 h2 a2 h))) c3
    · rcases fresh' i j1 b d n (by omega) a1 a3 with h3 | ⟨jj, d0, n0, f1, f2, f3, f4, ii, g1, g2, g3⟩
      · have := hr.blk j2 b d' n' c2; omega
      · have := hr.inj jj j2 b d0 n0 d' n' f2 c2 f1 c1 f4 c3
        subst this
        exact absurd (c5 ii g1 g2) g3
  refine ⟨m', ⟨?_, le, t.next, ⟨t.wf, ?_, ?_, ?_, ?_⟩, t.log1, ?_, deadF, ?_, st.size, ?_, st.os, st.tape, st.output⟩, via⟩
  · rintro i (h2 | h2)
    · exact lo i h2
    · exact hi_ i h2
  · intro j b d n hm hj
    by_cases h2 : j < H0.next
    · rw [lo j h2] at hm
      by_cases hto : ∃ i, tch i ∧ σ i = some j
      · obtain ⟨i, h3, h4⟩ := hto
        have hi := t.tlt i h3
        obtain ⟨o, o', a1, a2, a3⟩ := t.out i j h4 (.inl h3)
        refine ⟨o', a2, ?_⟩
        rcases a3 with rfl | a3
        · trivial
        · obtain ⟨q, q1, q2⟩ := st.hr.obj i b d n (by rw [(oldi i j hi h4).1]; exact hm) (Nat.lt_of_lt_of_le hi t.le)
          rw [a1] at q1; cases q1
          exact q2.re via a3
      · have hno : ∀ i, tch i → σ i ≠ some j := fun i h3 h4 => hto ⟨i, h3, h4⟩
        obtain ⟨o, q1, q2⟩ := hr.obj j b d n hm h2
        refine ⟨o, by rw [t.keep j h2 hno]; exact q1, ?_⟩
        by_cases hd : o = .dead
        · subst hd; trivial
        · exact q2.mono le (block j b d n hm h2 (by rw [q1]; intro h; exact hd (Option.some.inj h)) hno)
    · obtain ⟨i, a1, a2, a3, a4⟩ := nsrc j b d n (by omega) hj hm
      obtain ⟨o, o', b1, b2, b3⟩ := t.out i j a3 (.inr ⟨a1, a2⟩)
      refine ⟨o', b2, ?_⟩
      rcases b3 with rfl | b3
      · trivial
      · obtain ⟨q, q1, q2⟩ := st.hr.obj i b d n a4 a2
        rw [b1] at q1; cases q1
        exact q2.re via b3
  · intro j b d n hm
    by_cases h2 : j < H0.next
    · rw [lo j h2] at hm; exact Nat.lt_of_lt_of_le (hr.blk j b d n hm) st.size
    · by_cases h3 : j < H1.next
      · obtain ⟨i, a1, a2, a3, a4⟩ := nsrc j b d n (by omega) h3 hm
        exact st.hr.blk i b d n a4
      · rw [hi_ j (by omega), tm j (by omega)] at hm; cases hm
  · intro j1 j2 b d n d' n' hm1 hm2 hj1 hj2 hd1 hd2
    rcases linked j1 b d n hj1 hm1 hd1 with l1 | u1
    · rcases linked j2 b d' n' hj2 hm2 hd2 with l2 | u2
      · obtain ⟨i1, a1, a2, a3, a4⟩ := l1
        obtain ⟨i2, b1, b2, b3, b4⟩ := l2
        have := st.hr.inj i1 i2 b d n d' n' a3 b3 a1 b1 a4 b4
        subst this
        rw [a2] at b2; exact Option.some.inj b2
      · exact mixed j1 j2 b d n d' n' l1 hm1 u2
    · rcases linked j2 b d' n' hj2 hm2 hd2 with l2 | u2
      · exact (mixed j2 j1 b d' n' d n l2 hm2 u1).symm
      · exact hr.inj j1 j2 b d n d' n' u1.2.1 u2.2.1 u1.1 u2.1 u1.2.2.1 u2.2.2.1
  · intro i j b d n d' n' _ hmj _ hj
    rw [hi_ j hj, tm j (Nat.le_trans t.next hj)] at hmj; cases hmj
  · intro j hj hnl
    exact t.keep j hj fun i h2 h3 => hnl (t.log2 i j h2 h3)
  · intro j b d n hm h2 h3
    obtain ⟨i, a1, a2, a3, a4⟩ := nsrc j b d n h2 h3 hm
    rcases fresh' i j b d n a1 a2 a4 with h4 | ⟨jj, d0, n0, f1, f2, f3, f4, _⟩
    · exact .inl h4
    · exact .inr ⟨jj, d0, n0, f1, f2, f3, f4⟩
  · intro b hb hc
    refine st.frame b hb fun i d n hp hi hl => ?_
    obtain ⟨_, j, e1, e2⟩ := pull_some hp
    obtain ⟨j2, f1, f2⟩ := t.dom i hi
    rw [e1] at f1; cases f1
    exact t.alive i j hi e1 (hc j d n e2 f2 (t.log2 i j (t.tlog i hi hl) e1))
end Go.X

/-
  What is known of calls is true: it may be used; a run shows it; the executor that knows of calls is sound.
-/
namespace Go.X
variable {P : Program} {m : M} {h : H} {w : World} {e : Ent}

/-- What is known of a call is true. -/
def EntOK (P : Program) (e : Ent) : Prop := ∀ (m : M) (w : World) (A : Array Value), HR m e.beg w → Tight m e.beg → VRs m e.args A.toList →
  (callFunc e.k A).run P w = .ok (.enter e.k A) w ∧ CallsIn Fence.wide 0 P e.k A w fun ex w' => ∃ V, ex = .returned V ∧ ∃ m', Step m e.beg w m' e.fin w' ∧ VR m' e.val V
def MemoOK (P : Program) (memo : FuncId → List LV → H → Option (LV × H)) : Prop := ∀ k args h v h', memo k args h = some (v, h') → ∀ (m : M) (w : World) (A : Array Value), HR m h w → Tight m h → VRs m args A.toList →
  (callFunc k A).run P w = .ok (.enter k A) w ∧ CallsIn Fence.wide 0 P k A w fun ex w' => ∃ V, ex = .returned V ∧ ∃ m', Step m h w m' h' w' ∧ VR m' v V

/-! ### The heaps of what is known -/
theorem newsI_next : ∀ (l : List MO) (h : H), (newsI l h).next = h.next + l.length := by
  intro l
  induction l with
  | nil => intro h; rfl
  | cons o l ih => intro h; simp only [newsI]; rw [ih, H.next_new]; simp; omega
theorem newsI_log : ∀ (l : List MO) (h : H), (newsI l h).log = h.log := by
  intro l
  induction l with
  | nil => intro h; rfl
  | cons o l ih => intro h; simp only [newsI]; rw [ih, H.log_new]
theorem newsI_lt : ∀ (l : List MO) (h : H) (i : Nat), i < h.next → (newsI l h).get i = h.get i := by
  intro l
  induction l with
  | nil => intro h i _; rfl
  | cons o l ih => intro h i hi; simp only [newsI]; rw [ih _ i (by rw [H.next_new]; omega), H.get_new, if_neg (by omega)]
theorem newsI_at : ∀ (l : List MO) (h : H) (p : Nat) (o : MO), l[p]? = some o → (newsI l h).get (h.next + p) = some o.toLO := by
  intro l
  induction l with
  | nil => intro h p o hp; simp at hp
  | cons x l ih =>
    intro h p o hp
    simp only [newsI]
    cases p with
    | zero =>
      simp at hp; subst hp
      rw [newsI_lt _ _ _ (by rw [H.next_new]; omega), H.get_new]; simp
    | succ p =>
      simp at hp
      have := ih (h.new x.toLO) p o hp
      rw [H.next_new] at this
      rw [← this]; congr 1; omega
theorem newsI_wf : ∀ (l : List MO) (h : H), (∀ i, h.next ≤ i → h.get i = none) → ∀ i, (newsI l h).next ≤ i → (newsI l h).get i = none := by
  intro l
  induction l with
  | nil => intro h hw i hi; exact hw i hi
  | cons o l ih =>
    intro h hw i hi
    simp only [newsI] at hi ⊢
    refine ih _ (fun i hi => ?_) i hi
    rw [H.next_new] at hi
    rw [H.get_new, if_neg (by omega)]; exact hw i (by omega)
theorem beg_next (e : Ent) : e.beg.next = e.objs.length := by unfold Ent.beg; rw [newsI_next]; simp [H.empty]
theorem beg_log (e : Ent) : e.beg.log = [] := by unfold Ent.beg; rw [newsI_log]; rfl
theorem beg_at (e : Ent) {p : Nat} {o : MO} (hp : e.objs[p]? = some o) : e.beg.get p = some o.toLO := by
  have := newsI_at e.objs .empty p o hp
  rw [show H.empty.next + p = p from Nat.zero_add p] at this
  exact this
theorem beg_wf (e : Ent) : ∀ i, e.beg.next ≤ i → e.beg.get i = none := newsI_wf _ _ fun _ _ => rfl
theorem putsI_next : ∀ (l : List (Nat × MO)) (h : H), (putsI l h).next = h.next := by
  intro l
  induction l with
  | nil => intro h; rfl
  | cons c l ih => intro h; simp only [putsI]; rw [ih, H.next_put]
theorem fin_next (e : Ent) : e.fin.next = e.objs.length + e.news.length := by unfold Ent.fin; rw [newsI_next, putsI_next, beg_next]

/-! ### The numbers -/
theorem nth_eq {α : Type} : ∀ (l : List α) (i : Nat), nth l i = l[i]? := by
  intro l
  induction l with
  | nil => intro i; simp [nth]
  | cons a l ih => intro i; cases i with | zero => simp [nth] | succ i => simp [nth, ih]
theorem afterN_lt {ρ : List Nat} {n i : Nat} (h : i < ρ.length) : afterN ρ n i = some ρ[i] := by
  unfold afterN; rw [nth_eq, List.getElem?_eq_getElem h]
theorem afterN_ge {ρ : List Nat} {n i : Nat} (h : ρ.length ≤ i) : afterN ρ n i = some (n + (i - ρ.length)) := by
  unfold afterN; rw [nth_eq, List.getElem?_eq_none h]; rfl
theorem afterN_inj {ρ : List Nat} {n : Nat} (ha : apartIds n ρ = true) : ∀ i i' j, afterN ρ n i = some j → afterN ρ n i' = some j → i = i' := by
  intro i i' j h1 h2
  obtain ⟨a1, a2⟩ := apart_spec ha
  by_cases hi : i < ρ.length
  · rw [afterN_lt hi] at h1; cases h1
    have := a1 _ (List.getElem_mem hi)
    by_cases hi' : i' < ρ.length
    · rw [afterN_lt hi'] at h2
      exact ((List.getElem_inj a2).1 (Option.some.inj h2)).symm
    · rw [afterN_ge (by omega)] at h2; simp at h2; omega
  · rw [afterN_ge (by omega)] at h1; simp at h1
    by_cases hi' : i' < ρ.length
    · rw [afterN_lt hi'] at h2; cases h2
      have := a1 _ (List.getElem_mem hi'); omega
    · rw [afterN_ge (by omega)] at h2; simp at h2; omega
theorem fitsAll_ok {σ : Nat → Option Nat} : ∀ {l : List MO} {i : Nat}, fitsAll σ h l i = true → ∀ (p : Nat) (mo : MO), l[p]? = some mo → ∃ j x, σ (i + p) = some j ∧ h.get j = some x ∧ fitsM σ x mo = true := by
  intro l
  induction l with
  | nil => intro i _ p mo hp; simp at hp
  | cons o l ih =>
    intro i e p mo hp
    simp only [fitsAll] at e
    cases h1 : σ i with
    | none => simp [h1] at e
    | some j =>
      simp only [h1] at e
      cases h2 : h.get j with
      | none => simp [h2] at e
      | some x =>
        simp only [h2] at e
        cases h3 : fitsM σ x o with
        | false => simp [h3] at e
        | true =>
          simp only [h3, cond_true] at e
          cases p with
          | zero => simp at hp; subst hp; exact ⟨j, x, h1, h2, h3⟩
          | succ p =>
            simp at hp
            obtain ⟨j', x', q1, q2, q3⟩ := ih e p mo hp
            exact ⟨j', x', by rw [← q1]; congr 1; simp; omega, q2, q3⟩
theorem chgOk_ok {n : Nat} : ∀ {l : List (Nat × MO)}, chgOk n l = true → ∀ c ∈ l, c.1 < n := by
  intro l
  induction l with
  | nil => intro _ c hc; cases hc
  | cons x l ih =>
    intro e c hc
    simp only [chgOk, Bool.and_eq_true, T.nblt, decide_eq_true_eq] at e
    rcases List.mem_cons.1 hc with rfl | hc
    · exact e.1
    · exact ih e.2 c hc

/-! ### The two heaps side by side -/
structure Par (σ : Nat → Option Nat) (K N : Nat) (H0 hi ho : H) : Prop where
  kle : K ≤ hi.next
  nx : ho.next = N + (hi.next - K)
  lg : ∀ i, i ∈ hi.log → i < K ∧ ∀ j, σ i = some j → j ∈ ho.log
  out : ∀ i j, σ i = some j → (i ∈ hi.log ∨ (K ≤ i ∧ i < hi.next)) → ∃ o o', hi.get i = some o ∧ ho.get j = some o' ∧ ReO σ o o'
  keep : ∀ j, j < N → (∀ i, i ∈ hi.log → σ i ≠ some j) → ho.get j = H0.get j
  wf : ∀ j, ho.next ≤ j → ho.get j = none
  old : ∀ j, j ∈ H0.log → j ∈ ho.log
theorem Par.put {σ : Nat → Option Nat} {K N : Nat} {H0 hi ho : H} (p : Par σ K N H0 hi ho) (inj : ∀ i i' j, σ i = some j → σ i' = some j → i = i') {c j0 : Nat} {o o' : LO} (hc : c < K) (hs : σ c = some j0) (hj : j0 < N) (hr : ReO σ o o') : Par σ K N H0 (hi.put c o) (ho.put j0 o') where
  kle := by rw [H.next_put]; exact p.kle
  nx := by rw [H.next_put, H.next_put]; exact p.nx
  lg i hm := by
    have hm' : i = c ∨ i ∈ hi.log := by cases hi; exact of_logged _ _ _ hm
    rcases hm' with rfl | hm'
    · exact ⟨hc, fun j hj => by rw [hs] at hj; cases hj; exact H.mem_put _ _ _⟩
    · exact ⟨(p.lg i hm').1, fun j hj => H.log_put _ _ _ _ ((p.lg i hm').2 j hj)⟩
  out i j h1 h2 := by
    rw [H.get_put, H.get_put]
    by_cases hic : i = c
    · subst hic; rw [hs] at h1; cases h1
      exact ⟨o, o', by simp, by simp, hr⟩
    · have hjj : j ≠ j0 := by rintro rfl; exact hic (inj _ _ _ h1 hs)
      rw [if_neg hic, if_neg hjj]
      refine p.out i j h1 ?_
      rcases h2 with h2 | h2
      · have hm' : i = c ∨ i ∈ hi.log := by cases hi; exact of_logged _ _ _ h2
        exact .inl (hm'.resolve_left hic)
      · rw [H.next_put] at h2; exact .inr h2
  keep j hj hn := by
    have hjj : j ≠ j0 := by rintro rfl; exact hn c (H.mem_put _ _ _) hs
    rw [H.get_put, if_neg hjj]
    exact p.keep j hj fun i h1 => hn i (H.log_put _ _ _ _ h1)
  wf j h1 := by
    rw [H.next_put] at h1
    have := p.nx
    rw [H.get_put, if_neg (by omega)]; exact p.wf j h1
  old j h1 := H.log_put _ _ _ _ (p.old j h1)
theorem Par.new {σ : Nat → Option Nat} {K N : Nat} {H0 hi ho : H} (p : Par σ K N H0 hi ho) (ge : ∀ i, K ≤ i → σ i = some (N + (i - K))) (inj : ∀ i i' j, σ i = some j → σ i' = some j → i = i') {o o' : LO} (hr : ReO σ o o') : Par σ K N H0 (hi.new o) (ho.new o') := by
  have hs : σ hi.next = some ho.next := by rw [ge _ p.kle, p.nx]
  have hnx := p.nx
  have hk := p.kle
  refine ⟨by rw [H.next_new]; omega, by rw [H.next_new, H.next_new]; omega, fun i hm => ?_, fun i j h1 h2 => ?_, fun j hj hn => ?_, fun j h1 => ?_, fun j h1 => by rw [H.log_new]; exact p.old j h1⟩
  · rw [H.log_new] at hm; rw [H.log_new]; exact p.lg i hm
  · rw [H.get_new, H.get_new]
    by_cases hic : i = hi.next
    · subst hic; rw [hs] at h1; cases h1
      exact ⟨o, o', by simp, by simp, hr⟩
    · have hjj : j ≠ ho.next := by rintro rfl; exact hic (inj _ _ _ h1 hs)
      rw [if_neg hic, if_neg hjj]
      refine p.out i j h1 ?_
      rw [H.log_new, H.next_new] at h2
      rcases h2 with h2 | h2
      · exact .inl h2
      · exact .inr ⟨h2.1, by omega⟩
  · rw [H.log_new] at hn
    rw [H.get_new, if_neg (by omega)]; exact p.keep j hj hn
  · rw [H.next_new] at h1
    rw [H.get_new, if_neg (by omega)]; exact p.wf j (by omega)
theorem Par.puts {σ : Nat → Option Nat} {K N : Nat} {H0 : H} (lt : ∀ i j, i < K → σ i = some j → j < N) (inj : ∀ i i' j, σ i = some j → σ i' = some j → i = i') : ∀ {l : List (Nat × MO)} {hi ho ho' : H}, Par σ K N H0 hi ho → (∀ c ∈ l, c.1 < K) → putsM σ l ho = some ho' → Par σ K N H0 (putsI l hi) ho' := by
  intro l
  induction l with
  | nil => intro hi ho ho' p _ e; simp only [putsM, Option.some.injEq] at e; subst e; exact p
  | cons c l ih =>
    intro hi ho ho' p hl e
    simp only [putsM] at e
    cases h1 : σ c.1 with
    | none => simp [h1] at e
    | some j =>
      cases h2 : reM σ c.2 with
      | none => simp [h1, h2] at e
      | some o =>
        simp only [h1, h2] at e
        exact ih (p.put inj (hl c (by simp)) h1 (lt _ _ (hl c (by simp)) h1) (reM_ok h2)) (fun c hc => hl c (by simp [hc])) e
theorem Par.newsM {σ : Nat → Option Nat} {K N : Nat} {H0 : H} (ge : ∀ i, K ≤ i → σ i = some (N + (i - K))) (inj : ∀ i i' j, σ i = some j → σ i' = some j → i = i') : ∀ {l : List MO} {hi ho ho' : H}, Par σ K N H0 hi ho → Go.X.newsM σ l ho = some ho' → Par σ K N H0 (newsI l hi) ho' := by
  intro l
  induction l with
  | nil => intro hi ho ho' p e; simp only [Go.X.newsM, Option.some.injEq] at e; subst e; exact p
  | cons c l ih =>
    intro hi ho ho' p e
    simp only [Go.X.newsM] at e
    cases h2 : reM σ c with
    | none => simp [h2] at e
    | some o =>
      simp only [h2] at e
      exact ih (p.new ge inj (reM_ok h2)) e

/-! ### It may be used -/
theorem Ent.use_ok (he : EntOK P e) {args : List LV} {v : LV} {h' : H} (hu : e.use args h = some (v, h')) (w : World) {A : Array Value} (hr : HR m h w) (tm : Tight m h) (ha : VRs m args A.toList) :
    (callFunc e.k A).run P w = .ok (.enter e.k A) w ∧ CallsIn Fence.wide 0 P e.k A w fun ex w' => ∃ V, ex = .returned V ∧ ∃ m', Step m h w m' h' w' ∧ VR m' v V := by
  unfold Ent.use at hu
  generalize buildO h e.objs 0 (build (idsVs e.args) (idsVs args) []) = ρ at hu
  simp only at hu
  cases h1 : (Nat.beq ρ.length e.objs.length && apartIds h.next ρ && chgOk ρ.length e.chg) with
  | false => simp [h1] at hu
  | true =>
    simp only [h1, cond_true] at hu
    simp only [Bool.and_eq_true, T.nbeq, decide_eq_true_eq] at h1
    obtain ⟨⟨hlen, hap⟩, hchg⟩ := h1
    cases h2 : reVs (afterN ρ h.next) e.args with
    | none => simp [h2] at hu
    | some as =>
      simp only [h2] at hu
      cases h3 : (eqVs as args && fitsAll (afterN ρ h.next) h e.objs 0) with
      | false => simp [h3] at hu
      | true =>
        simp only [h3, cond_true] at hu
        simp only [Bool.and_eq_true] at h3
        obtain ⟨hargs, hfit⟩ := h3
        have := eqVs_eq hargs; subst this
        have hlt := (apart_spec hap).1
        have hinj := afterN_inj hap
        have hK : e.beg.next = ρ.length := by rw [beg_next, hlen]
        have lt : ∀ i j, i < ρ.length → afterN ρ h.next i = some j → j < h.next := by
          intro i j hi hj
          rw [afterN_lt hi] at hj; cases hj
          exact hlt _ (List.getElem_mem hi)
        have ge : ∀ i, ρ.length ≤ i → afterN ρ h.next i = some (h.next + (i - ρ.length)) := fun i hi => afterN_ge hi
        have fits : ∀ i j, i < ρ.length → afterN ρ h.next i = some j → ∃ (mo : MO) (x : LO), e.beg.get i = some mo.toLO ∧ h.get j = some x ∧ (mo.toLO = .dead ∨ ReO (afterN ρ h.next) mo.toLO x) := by
          intro i j hi hj
          have hi' : i < e.objs.length := by omega
          obtain ⟨j', x, q1, q2, q3⟩ := fitsAll_ok hfit i e.objs[i] (List.getElem?_eq_getElem hi')
          rw [Nat.zero_add, hj] at q1; cases q1
          exact ⟨e.objs[i], x, beg_at e (List.getElem?_eq_getElem hi'), q2, fitsM_ok q3⟩
        have alive : ∀ i j, i < ρ.length → afterN ρ h.next i = some j → h.get j = some .dead → e.beg.get i = some .dead := by
          intro i j hi hj hd
          obtain ⟨mo, x, q1, q2, q3⟩ := fits i j hi hj
          rw [hd] at q2; cases q2
          rcases q3 with q3 | q3
          · rw [q1, q3]
          · rw [q1, q3.dead_r]
        have bak : Bak (afterN ρ h.next) (pull (afterN ρ h.next) e.beg.next m) m := by
          intro i j hs x hx
          by_cases hi : i < ρ.length
          · rw [pull_of (by omega) hs]; exact hx
          · rw [ge i (by omega)] at hs; cases hs
            rw [tm _ (by omega)] at hx; cases hx
        have hr0 : HR (pull (afterN ρ h.next) e.beg.next m) e.beg w := by
          refine ⟨beg_wf e, fun i b d n hm hi => ?_, fun i b d n hm => ?_, fun i i' b d n d' n' hm hm' hi hi' hd hd' => ?_, fun i i' b d n d' n' hm hm' hi hi' => ?_⟩
          · obtain ⟨p1, j, p2, p3⟩ := pull_some hm
            obtain ⟨mo, x, q1, q2, q3⟩ := fits i j (by omega) p2
            refine ⟨mo.toLO, q1, ?_⟩
            rcases q3 with q3 | q3
            · rw [q3]; trivial
            · obtain ⟨x', y1, y2⟩ := hr.obj j b d n p3 (lt i j (by omega) p2)
              rw [q2] at y1; cases y1
              exact y2.un bak q3
          · obtain ⟨p1, j, p2, p3⟩ := pull_some hm
            exact hr.blk j b d n p3
          · obtain ⟨p1, j, p2, p3⟩ := pull_some hm
            obtain ⟨p1', j', p2', p3'⟩ := pull_some hm'
            have := hr.inj j j' b d n d' n' p3 p3' (lt i j (by omega) p2) (lt i' j' (by omega) p2') (fun x => hd (alive i j (by omega) p2 x)) (fun x => hd' (alive i' j' (by omega) p2' x))
            subst this
            exact hinj i i' j p2 p2'
          · rw [pull_ge hi'] at hm'; cases hm'
        obtain ⟨c1, c2⟩ := he (pull (afterN ρ h.next) e.beg.next m) w A hr0 (fun i hi => pull_ge hi) (ha.un bak h2)
        refine ⟨c1, c2.mono ?_⟩
        rintro ex w' ⟨V, rfl, m1, st, hv⟩
        unfold Ent.after at hu
        cases h4 : reV (afterN ρ h.next) e.val with
        | none => simp [h4] at hu
        | some v1 =>
          simp only [h4] at hu
          cases h5 : putsM (afterN ρ h.next) e.chg h with
          | none => simp [h5] at hu
          | some ha =>
            simp only [h5] at hu
            cases h6 : newsM (afterN ρ h.next) e.news ha with
            | none => simp [h6] at hu
            | some hb =>
              simp only [h6, Option.some.injEq, Prod.mk.injEq] at hu
              obtain ⟨rfl, rfl⟩ := hu
              have p0 : Par (afterN ρ h.next) ρ.length h.next h e.beg h := by
                refine ⟨by omega, by omega, fun i hi => (by rw [beg_log] at hi; cases hi), fun i j hs hi => ?_, fun j hj _ => rfl, hr.wf, fun j hj => hj⟩
                rcases hi with hi | hi
                · rw [beg_log] at hi; cases hi
                · omega
              have p2 := (p0.puts lt hinj (chgOk_ok hchg) h5).newsM ge hinj h6
              have p3 : Par (afterN ρ h.next) ρ.length h.next h e.fin hb := p2
              have t : Tr (afterN ρ h.next) e.beg e.fin h hb (fun i => i ∈ e.fin.log) := by
                have hnx := p3.nx
                have hkl := p3.kle
                refine ⟨fun i hi => ?_, fun i j hi => alive i j (by omega), by omega, fun i i' j a b _ _ => hinj i i' j a b, fun i j hs h7 h8 => ?_, fun j h7 h8 => ?_, fun i _ hl => hl, fun i hl => by rw [hK]; exact (p3.lg i hl).1, fun i j hs hto => ?_, fun j hj hn => p3.keep j hj hn, p3.wf, by omega, p3.old, fun i j hl hs => (p3.lg i hl).2 j hs⟩
                · rw [hK] at hi
                  exact ⟨ρ[i], afterN_lt hi, hlt _ (List.getElem_mem hi)⟩
                · rw [ge i (by omega)] at hs; cases hs; omega
                · refine ⟨ρ.length + (j - h.next), by omega, by omega, ?_⟩
                  rw [ge _ (by omega)]; congr 1; omega
                · rw [hK] at hto
                  obtain ⟨o, o', a1, a2, a3⟩ := p3.out i j hs hto
                  exact ⟨o, o', a1, a2, .inr a3⟩
              obtain ⟨m', s1, s2⟩ := t.step tm hr hr0 st
              exact ⟨V, rfl, m', s1, hv.re s2 h4⟩
theorem memoOf_ok : ∀ {l : List Ent}, (∀ e ∈ l, EntOK P e) → MemoOK P (memoOf l) := by
  intro l
  induction l with
  | nil => intro _ k args h v h' e; cases e
  | cons x l ih =>
    intro hl k args h v h' e m w A hr tm ha
    simp only [memoOf, T.nbeq] at e
    by_cases hk : k = x.k
    · subst hk
      simp only [decide_true, cond_true] at e
      cases hu : x.use args h with
      | none => simp only [hu] at e; exact ih (fun e he => hl e (by simp [he])) _ _ _ _ _ e m w A hr tm ha
      | some r => simp only [hu, Option.some.injEq] at e; subst e; exact Ent.use_ok (hl x (by simp)) hu w hr tm ha
    · simp only [hk, decide_false, cond_false] at e
      exact ih (fun e he => hl e (by simp [he])) _ _ _ _ _ e m w A hr tm ha

/-! ### The executor that knows of calls -/
theorem deepM_ok (hm : P.follows .mixedOrders = true) (hng : ∀ (k : Nat) (fn : Func), P.funcs[k]? = some fn → (fn.name == "runtime.NumGoroutine") = false) {exts : FuncId → List LV → Option LV} (hx : ExtsOK P exts) {memo : FuncId → List LV → H → Option (LV × H)} (hmemo : MemoOK P memo) :
    ∀ d, ExecOK P (deepM P exts memo d).exec ∧ CallOK P (deepM P exts memo d).call := by
  intro d
  induction d with
  | zero => exact ⟨fun ro c s e => absurd rfl e, fun k args h e => absurd rfl e⟩
  | succ d ih =>
    refine ⟨exec_ok hm (draw_ok ih.2 ih.1) ih.2 ih.1, ?_⟩
    have hc := merge_ok (call_ok hng hx (sums := fun _ _ => none) (fun k args v e => by cases e) ih.1)
    intro k args h e m w A hr tm ha
    show _ ∨ _
    have e' : memoStep memo k args h (merge (callStep P exts (fun _ _ => none) (deepM P exts memo d).exec k args h)) ≠ .no := e
    show ((callFunc k A).run P w = .ok (.enter k A) w ∧ CallsIn Fence.wide 0 P k A w fun e w' => ∃ V, e = .returned V ∧ CallPost (memoStep memo k args h (merge (callStep P exts (fun _ _ => none) (deepM P exts memo d).exec k args h))) m h w V w') ∨
      ((∃ s c, args = [.str s, .int .u8 c]) ∧ ∃ V w', (callFunc k A).run P w = .ok (.value V) w' ∧ CallPost (memoStep memo k args h (merge (callStep P exts (fun _ _ => none) (deepM P exts memo d).exec k args h))) m h w V w')
    unfold memoStep at e' ⊢
    cases hmm : memo k args h with
    | none => simp only [hmm] at e' ⊢; exact hc k args h e' m w A hr tm ha
    | some r =>
      obtain ⟨v, h'⟩ := r
      simp only
      obtain ⟨c1, c2⟩ := hmemo k args h v h' hmm m w A hr tm ha
      exact .inl ⟨c1, c2.mono fun ex w' ⟨V, q1, m', q2, q3⟩ => ⟨V, q1, (v, h'), m', rfl, q2, q3⟩⟩

/-! ### A run shows it -/
theorem selT_ok : ∀ {sel : List Nat} {k : Nat} {t : T Nat}, nodupN sel = true → (∀ (p i : Nat), sel[p]? = some i → (selT sel k t).get i = some (k + p)) ∧ ∀ i, i ∉ sel → (selT sel k t).get i = t.get i := by
  have mem : ∀ (l : List Nat) (i : Nat), memN l i = true ↔ i ∈ l := by
    intro l
    induction l with
    | nil => intro i; simp [memN]
    | cons a l ih =>
      intro i
      simp only [memN, T.nbeq]
      by_cases ha : a = i
      · simp [ha]
      · simp only [ha, decide_false, cond_false, ih, List.mem_cons]
        constructor
        · exact .inr
        · rintro (h | h)
          · exact absurd h.symm ha
          · exact h
  intro sel
  induction sel with
  | nil => intro k t _; exact ⟨fun p i hp => by simp at hp, fun i _ => rfl⟩
  | cons a r ih =>
    intro k t e
    simp only [nodupN] at e
    cases hm : memN r a with
    | true => simp [hm] at e
    | false =>
      simp only [hm, cond_false] at e
      have hn : a ∉ r := by rw [← mem r a, hm]; simp
      obtain ⟨h1, h2⟩ := ih (k := Nat.succ k) (t := t.set a k) e
      simp only [selT]
      refine ⟨fun p i hp => ?_, fun i hi => ?_⟩
      · cases p with
        | zero =>
          simp at hp; subst hp
          rw [h2 a hn, T.get_set, if_pos rfl]; rfl
        | succ p =>
          simp at hp
          rw [h1 p i hp]; congr 1; simp; omega
      · simp only [List.mem_cons, not_or] at hi
        rw [h2 i hi.2, T.get_set, if_neg hi.1]
theorem memN_iff : ∀ (l : List Nat) (i : Nat), memN l i = true ↔ i ∈ l := by
  intro l
  induction l with
  | nil => intro i; simp [memN]
  | cons a l ih =>
    intro i
    simp only [memN, T.nbeq]
    by_cases ha : a = i
    · simp [ha]
    · simp only [ha, decide_false, cond_false, ih, List.mem_cons]
      constructor
      · exact .inr
      · rintro (h | h)
        · exact absurd h.symm ha
        · exact h
theorem nodupN_ok : ∀ {l : List Nat}, nodupN l = true → l.Nodup := by
  intro l
  induction l with
  | nil => intro _; simp
  | cons a r ih =>
    intro e
    simp only [nodupN] at e
    cases hm : memN r a with
    | true => simp [hm] at e
    | false =>
      simp only [hm, cond_false] at e
      rw [List.nodup_cons]
      exact ⟨by rw [← memN_iff r a, hm]; simp, ih e⟩
theorem selOk_ok {K n : Nat} : ∀ {l : List Nat}, selOk K n l = true → ∀ i ∈ l, K ≤ i ∧ i < n := by
  intro l
  induction l with
  | nil => intro _ i hi; cases hi
  | cons a r ih =>
    intro e i hi
    simp only [selOk, T.nble, T.nblt] at e
    by_cases h1 : K ≤ a
    · by_cases h2 : a < n
      · simp only [h1, h2, decide_true, cond_true] at e
        rcases List.mem_cons.1 hi with rfl | hi
        · exact ⟨h1, h2⟩
        · exact ih e i hi
      · simp [h1, h2] at e
    · simp [h1] at e
theorem logIn_ok {K : Nat} {c : List Nat} : ∀ {l : List Nat}, logIn K c l = true → ∀ i ∈ l, i < K → i ∈ c := by
  intro l
  induction l with
  | nil => intro _ i hi; cases hi
  | cons a r ih =>
    intro e i hi hK
    simp only [logIn, T.nblt] at e
    by_cases h1 : a < K
    · simp only [h1, decide_true, cond_true] at e
      cases hm : memN c a with
      | false => simp [hm] at e
      | true =>
        simp only [hm, cond_true] at e
        rcases List.mem_cons.1 hi with rfl | hi
        · exact (memN_iff _ _).1 hm
        · exact ih e i hi hK
    · simp only [h1, decide_false, cond_false] at e
      rcases List.mem_cons.1 hi with rfl | hi
      · exact absurd hK h1
      · exact ih e i hi hK
theorem chgIs_ok {σ : Nat → Option Nat} : ∀ {l : List (Nat × MO)}, chgIs σ h l = true → ∀ c ∈ l, ∃ o, h.get c.1 = some o ∧ isM σ o c.2 = true := by
  intro l
  induction l with
  | nil => intro _ c hc; cases hc
  | cons a r ih =>
    intro e c hc
    simp only [chgIs] at e
    cases hg : h.get a.1 with
    | none => simp [hg] at e
    | some o =>
      simp only [hg, Bool.and_eq_true] at e
      rcases List.mem_cons.1 hc with rfl | hc
      · exact ⟨o, hg, e.1⟩
      · exact ih e.2 c hc
theorem newsIs_ok {σ : Nat → Option Nat} : ∀ {sel : List Nat} {l : List MO}, newsIs σ h sel l = true → sel.length = l.length ∧ ∀ (p i : Nat), sel[p]? = some i → ∃ o mo, h.get i = some o ∧ l[p]? = some mo ∧ isM σ o mo = true := by
  intro sel
  induction sel with
  | nil => intro l e; cases l with | nil => exact ⟨rfl, fun p i hp => by simp at hp⟩ | cons _ _ => cases e
  | cons a r ih =>
    intro l e
    cases l with
    | nil => cases e
    | cons x l =>
      simp only [newsIs] at e
      cases hg : h.get a with
      | none => simp [hg] at e
      | some o =>
        simp only [hg, Bool.and_eq_true] at e
        obtain ⟨h1, h2⟩ := ih e.2
        refine ⟨by simp [h1], fun p i hp => ?_⟩
        cases p with
        | zero => simp at hp; subst hp; exact ⟨o, x, hg, by simp, e.1⟩
        | succ p => simp at hp; simpa using h2 p i hp
theorem putsI_get : ∀ {l : List (Nat × MO)} {h : H}, (l.map Prod.fst).Nodup → (∀ c ∈ l, (putsI l h).get c.1 = some c.2.toLO) ∧ (∀ i, i ∉ l.map Prod.fst → (putsI l h).get i = h.get i) ∧ (∀ i, i ∈ l.map Prod.fst → i ∈ (putsI l h).log) ∧ ∀ i, i ∈ h.log → i ∈ (putsI l h).log := by
  intro l
  induction l with
  | nil => intro h _; exact ⟨fun c hc => (by cases hc), fun i _ => rfl, fun i hi => (by cases hi), fun i hi => hi⟩
  | cons a r ih =>
    intro h hn
    simp only [List.map_cons, List.nodup_cons] at hn
    obtain ⟨h1, h2, h3, h4⟩ := ih (h := h.put a.1 a.2.toLO) hn.2
    simp only [putsI]
    refine ⟨fun c hc => ?_, fun i hi => ?_, fun i hi => ?_, fun i hi => h4 i (H.log_put _ _ _ _ hi)⟩
    · rcases List.mem_cons.1 hc with rfl | hc
      · rw [h2 _ hn.1, H.get_put, if_pos rfl]
      · exact h1 c hc
    · simp only [List.map_cons, List.mem_cons, not_or] at hi
      rw [h2 i hi.2, H.get_put, if_neg hi.1]
    · simp only [List.map_cons, List.mem_cons] at hi
      rcases hi with rfl | hi
      · exact h4 _ (H.mem_put _ _ _)
      · exact h3 i hi
theorem Ent.ok_of_is {sel : List Nat} {x : R (LV × H)} (hi : e.is sel x = true)
    (hc : ∀ (m : M) (w : World) (A : Array Value), HR m e.beg w → Tight m e.beg → VRs m e.args A.toList → (callFunc e.k A).run P w = .ok (.enter e.k A) w ∧ CallsIn Fence.wide 0 P e.k A w fun ex w' => ∃ V, ex = .returned V ∧ CallPost x m e.beg w V w') : EntOK P e := by
  intro m w A hr tm ha
  obtain ⟨c1, c2⟩ := hc m w A hr tm ha
  refine ⟨c1, c2.mono ?_⟩
  rintro ex w' ⟨V, rfl, r, m1, hx, st, hv⟩
  refine ⟨V, rfl, ?_⟩
  cases x with
  | no => cases hx
  | many l => simp [Ent.is] at hi
  | one r' =>
    have : r = r' := hx
    subst this
    simp only [Ent.is] at hi
    simp only [Bool.and_eq_true] at hi
    obtain ⟨⟨⟨⟨⟨⟨⟨i1, i2⟩, i3⟩, i4⟩, i5⟩, i6⟩, i7⟩, i8⟩ := hi
    generalize hσ : selN e.objs.length (selT sel e.objs.length .leaf) = σ at i1 i7 i8
    obtain ⟨s1, s2⟩ := selT_ok (k := e.objs.length) (t := .leaf) i2
    have slt : ∀ i, i < e.objs.length → σ i = some i := by
      intro i hi; rw [← hσ]; unfold selN; rw [T.nblt]; simp [hi]
    have sge : ∀ i, e.objs.length ≤ i → σ i = (selT sel e.objs.length .leaf).get i := by
      intro i hi; rw [← hσ]; unfold selN; rw [T.nblt]; simp [Nat.not_lt.2 hi]
    have sat : ∀ (p i : Nat), sel[p]? = some i → σ i = some (e.objs.length + p) := by
      intro p i hp
      rw [sge i (selOk_ok i3 i (List.mem_of_getElem? hp)).1]; exact s1 p i hp
    have sof : ∀ i j, σ i = some j → e.objs.length ≤ i → ∃ p, sel[p]? = some i ∧ j = e.objs.length + p := by
      intro i j hs hi
      rw [sge i hi] at hs
      by_cases hmem : i ∈ sel
      · obtain ⟨p, hp, hpe⟩ := List.getElem_of_mem hmem
        have hp' : sel[p]? = some i := by rw [List.getElem?_eq_getElem hp, hpe]
        rw [s1 p i hp'] at hs
        exact ⟨p, hp', (Option.some.inj hs).symm⟩
      · rw [s2 i hmem] at hs; cases hs
    have hK := beg_next e
    obtain ⟨n1, n2⟩ := newsIs_ok i8
    obtain ⟨p1, p2, p3, p4⟩ := putsI_get (h := e.beg) (nodupN_ok i4)
    have hpn : (putsI e.chg e.beg).next = e.objs.length := by rw [putsI_next, hK]
    have hpull : pull σ e.beg.next m = m := by
      funext i
      by_cases hi : i < e.beg.next
      · rw [pull_of hi (slt i (by omega))]
      · rw [pull_ge (by omega), tm i (by omega)]
    have t : Tr σ e.beg r.2 e.beg e.fin (fun i => i ∈ e.chg.map Prod.fst) := by
      refine ⟨fun i hi => ⟨i, slt i (by omega), hi⟩, fun i j hi hs hd => ?_, st.next, fun i i' j h1 h2 _ _ => ?_, fun i j hs h1 h2 => ?_, fun j h1 h2 => ?_, fun i h1 h2 => ?_, fun i h1 => ?_, fun i j hs hto => ?_, fun j hj hn => ?_, ?_, ?_, fun j hj => (by rw [beg_log] at hj; cases hj), fun i j h1 hs => ?_⟩
      · rw [slt i (by omega)] at hs; cases hs; exact hd
      · by_cases a : i < e.objs.length
        · rw [slt i a] at h1; cases h1
          by_cases b : i' < e.objs.length
          · rw [slt i' b] at h2; cases h2; rfl
          · obtain ⟨p, _, hp⟩ := sof i' i h2 (by omega); omega
        · obtain ⟨p, hp, hpj⟩ := sof i j h1 (by omega)
          by_cases b : i' < e.objs.length
          · rw [slt i' b] at h2; cases h2; omega
          · obtain ⟨p', hp', hpj'⟩ := sof i' j h2 (by omega)
            have : p = p' := by omega
            subst this
            rw [hp] at hp'; exact Option.some.inj hp'
      · obtain ⟨p, hp, rfl⟩ := sof i j hs (by omega)
        have hpl : p < sel.length := (List.getElem?_eq_some_iff.1 hp).1
        rw [fin_next, hK]; omega
      · rw [fin_next] at h2
        have hpl : j - e.objs.length < sel.length := by omega
        have hp : sel[j - e.objs.length]? = some sel[j - e.objs.length] := List.getElem?_eq_getElem hpl
        refine ⟨sel[j - e.objs.length], ?_, ?_, ?_⟩
        · rw [hK]; exact (selOk_ok i3 _ (List.getElem_mem hpl)).1
        · exact (selOk_ok i3 _ (List.getElem_mem hpl)).2
        · rw [sat _ _ hp]; congr 1; omega
      · exact logIn_ok i6 i h2 (by omega)
      · obtain ⟨c, hc, rfl⟩ := List.mem_map.1 h1
        rw [hK]; exact chgOk_ok i5 c hc
      · rcases hto with hto | ⟨h1, h2⟩
        · obtain ⟨c, hc, rfl⟩ := List.mem_map.1 hto
          have hlt := chgOk_ok i5 c hc
          rw [slt _ hlt] at hs; cases hs
          obtain ⟨o, o1, o2⟩ := chgIs_ok i7 c hc
          refine ⟨o, c.2.toLO, o1, ?_, isM_ok o2⟩
          unfold Ent.fin
          rw [newsI_lt _ _ _ (by omega)]
          exact p1 c hc
        · obtain ⟨p, hp, rfl⟩ := sof i j hs (by omega)
          obtain ⟨o, mo, o1, o2, o3⟩ := n2 p i hp
          refine ⟨o, mo.toLO, o1, ?_, isM_ok o3⟩
          unfold Ent.fin
          have := newsI_at e.news (putsI e.chg e.beg) p mo o2
          rw [hpn] at this; exact this
      · unfold Ent.fin
        rw [newsI_lt _ _ _ (by omega)]
        refine p2 j fun hm => hn j hm (slt j (by omega))
      · exact newsI_wf _ _ fun i hi => by
          rw [hpn] at hi
          rw [p2 i]
          · exact beg_wf e i (by omega)
          · intro hm
            obtain ⟨c, hc, rfl⟩ := List.mem_map.1 hm
            have := chgOk_ok i5 c hc; omega
      · rw [fin_next]; omega
      · unfold Ent.fin
        rw [newsI_log]
        have h1' : i ∈ List.map Prod.fst e.chg := h1
        obtain ⟨c, hc, rfl⟩ := List.mem_map.1 h1
        rw [slt _ (chgOk_ok i5 c hc)] at hs; cases hs
        exact p3 _ h1'
    obtain ⟨m', q1, q2⟩ := t.step tm hr (by rw [hpull]; exact hr) (by rw [hpull]; exact st)
    cases h4 : reV σ r.1 with
    | none => simp [h4] at i1
    | some v =>
      simp only [h4] at i1
      have := eqV_eq i1; subst this
      exact ⟨m', q1, hv.re q2 h4⟩
/-- A run shows what is known of a call. -/
theorem Ent.ok_of_run (hm : P.follows .mixedOrders = true) (hng : ∀ (k : Nat) (fn : Func), P.funcs[k]? = some fn → (fn.name == "runtime.NumGoroutine") = false) {exts : FuncId → List LV → Option LV} (hx : ExtsOK P exts) {memo : FuncId → List LV → H → Option (LV × H)} (hmemo : MemoOK P memo)
    {fn : Func} (hf : P.funcs[e.k]? = some fn) (hb : fn.body.isNone = false) (d : Nat) (sel : List Nat) (hi : e.is sel ((deepM P exts memo d).call e.k e.args e.beg) = true) : EntOK P e := by
  refine Ent.ok_of_is hi fun m w A hr tm ha => ?_
  have hne : (deepM P exts memo d).call e.k e.args e.beg ≠ .no := by
    intro h; rw [h] at hi; simp [Ent.is] at hi
  rcases (deepM_ok hm hng hx hmemo d).2 e.k e.args e.beg hne m w A hr tm ha with c | ⟨_, V, w', c1, _⟩
  · exact c
  · rw [enter_run (hng _ fn hf) hf hb A w] at c1; cases c1
/-- What is known of a call without objects, in every world. -/
theorem Ent.calls (he : EntOK P e) (ho : e.objs = []) {A : Array Value} (ha : VRs (fun _ => none) e.args A.toList) {V : Value} (hV : ∀ m V', VR m e.val V' → V' = V) (w : World) : Calls P e.k A w fun ex w' => ex = .returned V ∧ RowKit.Below w.heap.size w w' := by
  have hb : e.beg = .empty := by unfold Ent.beg; rw [ho]; rfl
  obtain ⟨_, c2⟩ := he (fun _ => none) w A (by rw [hb]; exact HR.empty w) (fun _ _ => rfl) ha
  refine callsIn_wide.1 (c2.mono ?_)
  rintro ex w' ⟨V', rfl, m', r2, r3⟩
  rw [hV m' V' r3]
  exact ⟨rfl, r2.os, r2.tape, r2.output, r2.size, fun b hb' => r2.frame b hb' fun i d n h => by cases h⟩
end Go.X

/-
  Two functions without a body: where a byte is in a text, how often.
-/
namespace Go.X
variable {P : Program}

theorem toU8 {c : Int} (h0 : 0 ≤ c) (h1 : c < 256) : (c.toNat.toUInt8.toNat : Int) = c := by
  have : c.toNat < 256 := by omega
  simp [Nat.toUInt8, UInt8.toNat_ofNat_of_lt' this]
  omega
theorem indexByte_eq {c : Int} (h0 : 0 ≤ c) (h1 : c < 256) : ∀ (s : List UInt8) (i : Nat), indexByte c s i = if Lib.indexByte s c.toNat.toUInt8 = -1 then -1 else (i : Int) + Lib.indexByte s c.toNat.toUInt8 := by
  intro s
  induction s with
  | nil => intro i; simp [indexByte, Lib.indexByte]
  | cons b s ih =>
    intro i
    have hu := toU8 h0 h1
    simp only [indexByte, Lib.indexByte]
    by_cases hb : b = c.toNat.toUInt8
    · subst hb
      rw [hu]; simp
    · have hne : ¬ ((b.toNat : Int) = c) := by
        intro h
        apply hb
        rw [← UInt8.toNat_inj]
        have : (b.toNat : Int) = (c.toNat.toUInt8.toNat : Int) := by rw [hu]; exact h
        exact_mod_cast this
      have hbb : (b == c.toNat.toUInt8) = false := by simpa using hb
      rw [ih]
      simp only [hne, decide_false, cond_false, hbb, Bool.false_eq_true, if_false, beq_iff_eq, Nat.succ_eq_add_one]
      have hge := Lib.indexByte_ge s c.toNat.toUInt8
      by_cases h2 : Lib.indexByte s c.toNat.toUInt8 = -1
      · simp [h2]
      · simp only [h2, if_false]
        rw [if_neg (by omega)]
        push_cast; omega
theorem countByte_eq {c : Int} (h0 : 0 ≤ c) (h1 : c < 256) : ∀ (s : List UInt8) (n : Nat), countByte c s n = n + Lib.countByte s c.toNat.toUInt8 := by
  intro s
  induction s with
  | nil => intro n; simp [countByte, Lib.countByte]
  | cons b s ih =>
    intro n
    simp only [countByte]
    rw [ih]
    have := toU8 h0 h1
    by_cases hb : b = c.toNat.toUInt8
    · subst hb
      rw [this]; simp [Lib.countByte]; omega
    · have hne : ¬ ((b.toNat : Int) = c) := by
        intro h
        apply hb
        rw [← UInt8.toNat_inj]
        have : (b.toNat : Int) = (c.toNat.toUInt8.toNat : Int) := by rw [this]; exact h
        exact_mod_cast this
      simp [hne, Lib.countByte, List.count_cons, hb]
theorem exts2_ok {n1 n2 : FuncId} {f1 f2 : Func} (g1 : P.funcs[n1]? = some f1) (g2 : P.funcs[n2]? = some f2) (a1 : (f1.name == "runtime.NumGoroutine") = false) (a2 : (f2.name == "runtime.NumGoroutine") = false)
    (b1 : f1.body.isNone = true) (b2 : f2.body.isNone = true) (c1 : Extern.findNext f1 = none) (c2 : Extern.findNext f2 = none) (d1 : Extern.find f1 = some Extern.BytealgIndexByte.indexByte) (d2 : Extern.find f2 = some Extern.BytealgCount.count) : ExtsOK P (exts2 n1 n2) := by
  intro k args v e
  have two : ∀ {s : List UInt8} {c : Int} {m : M} {A : Array Value}, VRs m [.str s, .int .u8 c] A.toList → A = #[.string ⟨s.toArray⟩, .int .u8 c] := by
    intro s c m A h
    apply Array.ext'
    generalize A.toList = l at h ⊢
    cases h with
    | cons h1 t1 => cases h1; cases t1 with | cons h2 t2 => cases h2; cases t2; rfl
  unfold exts2 at e
  cases h1 : extIndex n1 k args with
  | some u =>
    simp only [h1, Option.some.injEq] at e; subst e
    unfold extIndex at h1
    rw [T.nbeq] at h1
    by_cases hk : k = n1
    · subst hk
      simp only [decide_true, cond_true] at h1
      split at h1
      · rename_i s c
        by_cases hc : 0 ≤ c ∧ c < 256
        · simp only [hc.1, hc.2, decide_true, Bool.and_self, cond_true, Option.some.injEq] at h1; subst h1
          refine ⟨⟨s, c, rfl⟩, fun m A hA => ?_⟩
          rw [two hA]
          refine ⟨_, .int _ _, fun w => ?_⟩
          rw [run_callFunc_extern g1 a1 b1 c1 d1, Lib.run_indexByteString, indexByte_eq hc.1 hc.2]
          simp only [Result.andThen_ok]
          by_cases hm : Lib.indexByte s c.toNat.toUInt8 = -1 <;> simp [hm]
        · exfalso
          by_cases h0 : 0 ≤ c
          · have : ¬ c < 256 := fun h => hc ⟨h0, h⟩
            simp [h0, this] at h1
          · simp [h0] at h1
      · cases h1
    · simp [hk] at h1
  | none =>
    simp only [h1] at e
    unfold extCount at e
    rw [T.nbeq] at e
    by_cases hk : k = n2
    · subst hk
      simp only [decide_true, cond_true] at e
      split at e
      · rename_i s c
        by_cases hc : 0 ≤ c ∧ c < 256
        · simp only [hc.1, hc.2, decide_true, Bool.and_self, cond_true, Option.some.injEq] at e; subst e
          refine ⟨⟨s, c, rfl⟩, fun m A hA => ?_⟩
          rw [two hA]
          refine ⟨_, .int _ _, fun w => ?_⟩
          rw [run_callFunc_extern g2 a2 b2 c2 d2, Lib.run_countString, countByte_eq hc.1 hc.2]
          simp only [Result.andThen_ok]
          simp
        · exfalso
          by_cases h0 : 0 ≤ c
          · have : ¬ c < 256 := fun h => hc ⟨h0, h⟩
            simp [h0, this] at e
          · simp [h0] at e
      · cases e
    · simp [hk] at e
end Go.X
