/- lemmas: AmLaw -/
import Derived.Test.YtfkfjebiaelniaaGreatAmC
import Derived.ProofKit
import Derived.OpenShut
import Derived.WalkKit
import Derived.SizedLaws
import Derived.Carry
set_option linter.all false
set_option linter.unusedSectionVars false
set_option linter.unusedVariables false
set_option linter.unusedSimpArgs false
noncomputable section
namespace Go.Am
open Go.ChangeShapes Go.WideShapes Go.ChangeAt Go.RowKit
abbrev free : Nat → Prop := fun _ => False
def Rng : (t : Ty) → Val t → Prop
  | .int .i64, n => -9223372036854775808 ≤ (n : Int) ∧ (n : Int) ≤ 9223372036854775807
  | .pair a b, x => Rng a (x : Val a × Val b).1 ∧ Rng b (x : Val a × Val b).2
  | .slice t, l => ∀ x ∈ (l : List (Val t)), Rng t x
  | _, _ => True
mutual
def tyIs (P : Program) : Nat → Ty → TypeId → Bool
  | 0, _, _ => false
  | n + 1, τ, t =>
    match P.underlying t with
    | some .bool => match τ with
      | .bool => true
      | _ => false
    | some (.int k) => match τ with
      | .int k' => k == k'
      | _ => false
    | some .string => match τ with
      | .str => true
      | _ => false
    | some (.slice e) => match τ with
      | .slice u => tyIs P n u e && (Nat.beq (P.cellsOf e) u.size && Nat.ble 1 u.size)
      | _ => false
    | some (.struct fs) => Nat.beq (P.cellsOf t) τ.size && (τ.isAgg && fieldsAre P n τ 0 fs.toList)
    | _ => false
def fieldsAre (P : Program) : Nat → Ty → Nat → List Field → Bool
  | 0, _, _, _ => false
  | n + 1, τ, off, [f] => Nat.beq f.offset off && (Nat.beq (P.cellsOf f.type) τ.size && tyIs P n τ f.type)
  | n + 1, .pair a b, off, f :: g :: fs => Nat.beq f.offset off && (Nat.beq (P.cellsOf f.type) a.size && (tyIs P n a f.type && fieldsAre P n b (off + a.size) (g :: fs)))
  | _, _, _, _ => false
end
theorem mapM_mem {α β : Type} {f : α → Option β} : ∀ {l : List α} {ys : List β}, l.mapM f = some ys → ∀ a ∈ l, ∃ y, f a = some y
  | [], ys, _, a, ha => by cases ha
  | b :: l, ys, h, a, ha => by
    rw [List.mapM_cons] at h
    cases hb : f b with
    | none => rw [hb] at h; cases h
    | some y =>
      rw [hb] at h
      cases hl : l.mapM f with
      | none => simp [hl] at h
      | some zs =>
        rcases List.mem_cons.1 ha with rfl | ha
        · exact ⟨y, hb⟩
        · exact mapM_mem hl a ha
theorem choose_list {α : Type} {Q : Nat → α → Prop} : ∀ n : Nat, (∀ i, i < n → ∃ x, Q i x) → ∃ xs : List α, xs.length = n ∧ ∀ i x, xs[i]? = some x → Q i x
  | 0, _ => ⟨[], rfl, fun i x h => by simp at h⟩
  | n + 1, h => by
    obtain ⟨xs, h1, h2⟩ := choose_list n fun i hi => h i (by omega)
    obtain ⟨x, hx⟩ := h n (by omega)
    refine ⟨xs ++ [x], by simp [h1], fun i y hy => ?_⟩
    rcases Nat.lt_or_ge i n with hi | hi
    · rw [List.getElem?_append_left (by omega)] at hy; exact h2 i y hy
    · rw [List.getElem?_append_right (by omega), h1] at hy
      have : i = n := by
        rcases Nat.lt_or_ge 0 (i - n) with h0 | h0
        · rw [List.getElem?_eq_none (by simp; omega)] at hy; cases hy
        · omega
      subst this
      simp at hy
      rw [← hy]; exact hx
section
variable {H : Type} {enc : TypeId × Value → H} {P : Program} {w : World} {sp : Nat → Bool} {held : Bool}
theorem cells_at {base : Nat} {a : Addr} {n : Nat} {cs : List Value} (h : w.cells? base a n = some cs) (hs : a.spot = none) : CellsAt w a.block a.off cs := by
  obtain ⟨_, hl, hc⟩ := World.cells?_some h
  intro j v hj
  have hjl : j < cs.length := (List.getElem?_eq_some_iff.1 hj).1
  have := hc j (by omega)
  rw [hj] at this
  rw [← this]
  congr 1
  obtain ⟨b, o, s⟩ := a
  simp only at hs
  subst hs
  exact (add_plain b o j).symm
def TrodOk (enc : TypeId × Value → H) (P : Program) (w : World) (sp : Nat → Bool) (held : Bool) (n : Nat) : Prop :=
  ∀ (τ : Ty) (t : TypeId) (fuel : Nat) (cs : List Value) (d : DataW H) (ps : List MemPlace), tyIs P n τ t = true → DataW.trod enc P w 0 sp held fuel t cs = some (d, ps) → ∃ x : Val τ, CR w free τ x cs ∧ Rng τ x
def FieldsOk (enc : TypeId × Value → H) (P : Program) (w : World) (sp : Nat → Bool) (held : Bool) (n : Nat) : Prop :=
  ∀ (τ : Ty) (off : Nat) (fs : List Field) (fuel : Nat) (cs : List Value), fieldsAre P n τ off fs = true → (∀ f ∈ fs, ∃ y, DataW.trod enc P w 0 sp held fuel f.type ((cs.drop f.offset).take (P.cellsOf f.type)) = some y) → cs.length = off + τ.size → ∃ x : Val τ, CR w free τ x (cs.drop off) ∧ Rng τ x
set_option maxHeartbeats 1000000 in
theorem trod_step {n : Nat} (A : TrodOk enc P w sp held n) (B : FieldsOk enc P w sp held n) : TrodOk enc P w sp held (n + 1) := by
  intro τ t fuel cs d ps h e
  cases fuel with
  | zero => simp [DataW.trod] at e
  | succ fuel =>
    unfold tyIs at h
    unfold DataW.trod at e
    split at h
    · -- bool
      rename_i hu
      rw [hu] at e
      cases τ <;> try (cases h; done)
      rcases cs with _ | ⟨c, _ | ⟨c2, cs⟩⟩ <;> try first | (cases e; done) | (simp at e; done)
      cases c <;> try (cases e; done)
      rename_i b
      exact ⟨(show Val .bool from b), rfl, trivial⟩
    · -- int
      rename_i k hu
      rw [hu] at e
      cases τ <;> try (cases h; done)
      rename_i k'
      have hk : k = k' := by simpa using h
      subst hk
      rcases cs with _ | ⟨c, _ | ⟨c2, cs⟩⟩ <;> try first | (cases e; done) | (simp at e; done)
      cases c <;> try (cases e; done)
      rename_i k2 m
      simp only at e
      split at e <;> try (cases e; done)
      rename_i hc
      obtain ⟨rfl, hwf⟩ := hc
      refine ⟨(show Val (.int k2) from m), rfl, ?_⟩
      cases k2 <;> try trivial
      simp only [Lit.wf, Bool.and_eq_true, decide_eq_true_eq] at hwf
      exact hwf
    · -- string
      rename_i hu
      rw [hu] at e
      cases τ <;> try (cases h; done)
      rcases cs with _ | ⟨c, _ | ⟨c2, cs⟩⟩ <;> try first | (cases e; done) | (simp at e; done)
      cases c <;> try (cases e; done)
      rename_i s
      exact ⟨(show Val .str from s), rfl, trivial⟩
    · -- slice
      rename_i el hu
      rw [hu] at e
      cases τ <;> try (cases h; done)
      rename_i u
      simp only [Bool.and_eq_true] at h
      obtain ⟨h1, h2, h3⟩ := h
      have hsz : P.cellsOf el = u.size := Nat.eq_of_beq_eq_true h2
      have hpos : 1 ≤ u.size := Nat.le_of_ble_eq_true h3
      rcases cs with _ | ⟨c, _ | ⟨c2, cs⟩⟩ <;> try first | (cases e; done) | (simp at e; done)
      cases c <;> try (cases e; done)
      rename_i base len cap
      cases base with
      | none =>
        cases len <;> cases cap <;> try (cases e; done)
        exact ⟨(show Val (.slice u) from []), ⟨none, 0, rfl, Nat.le_refl _, .inl rfl⟩, fun x hx => by cases hx⟩
      | some a =>
        simp only at e
        split at e <;> try (cases e; done)
        rename_i hb
        cases hm : (List.range len).mapM (fun i => (w.cells? 0 (a.add (i * P.cellsOf el)) (P.cellsOf el)).bind (DataW.trod enc P w 0 sp held fuel el)) with
        | none => rw [hm] at e; cases e
        | some elems =>
          clear e
          have each : ∀ i, i < len → ∃ x : Val u, ∃ us, w.cells? 0 (a.add (i * P.cellsOf el)) (P.cellsOf el) = some us ∧ CR w free u x us ∧ Rng u x := by
            intro i hi
            obtain ⟨y, hy⟩ := mapM_mem hm i (List.mem_range.2 hi)
            cases hc : w.cells? 0 (a.add (i * P.cellsOf el)) (P.cellsOf el) with
            | none => rw [hc] at hy; cases hy
            | some us =>
              rw [hc] at hy
              obtain ⟨d', ps'⟩ := y
              obtain ⟨x, g1, g2⟩ := A u el fuel us d' ps' h1 hy
              exact ⟨x, us, rfl, g1, g2⟩
          obtain ⟨xs, hl, hx⟩ := choose_list len each
          refine ⟨(show Val (.slice u) from xs), ⟨some a, cap, by rw [hl], by rw [hl]; exact hb.2.1, ?_⟩, fun x hxm => ?_⟩
          · rcases Nat.eq_zero_or_pos len with h0 | h0
            · left; exact List.length_eq_zero_iff.1 (by rw [hl, h0])
            · right
              obtain ⟨x0, us0, c0, _, _⟩ := each 0 h0
              have hblk := World.cells?_block c0 (by omega)
              obtain ⟨_, l0, g0⟩ := World.cells?_some c0
              have hspot : a.spot = none := by
                have h5 := g0 0 (by omega)
                obtain ⟨v0, hv0⟩ : ∃ v0, us0[0]? = some v0 := ⟨us0[0], List.getElem?_eq_getElem (by omega)⟩
                rw [hv0] at h5
                simpa [Addr.add] using World.cell?_spot h5
              obtain ⟨b, o, s⟩ := a
              simp only at hspot
              subst hspot
              refine ⟨b, o, rfl, id, by simpa [Addr.add] using hblk, fun i x hxi => ?_⟩
              obtain ⟨us, q1, q2, _⟩ := hx i x hxi
              refine ⟨us, q2, ?_⟩
              rw [add_plain] at q1
              have := cells_at q1 rfl
              rw [hsz] at this
              exact this
          · obtain ⟨i, hi, rfl⟩ := List.mem_iff_getElem.1 hxm
            obtain ⟨us, _, _, g⟩ := hx i _ (List.getElem?_eq_getElem hi)
            exact g
    · -- struct
      rename_i fs hu
      rw [hu] at e
      simp only [Bool.and_eq_true] at h
      obtain ⟨h1, _, h2⟩ := h
      have hsz : P.cellsOf t = τ.size := Nat.eq_of_beq_eq_true h1
      simp only at e
      split at e <;> try (cases e; done)
      rename_i hlen
      cases hm : fs.toList.mapM (fun f => DataW.trod enc P w 0 sp held fuel f.type ((cs.drop f.offset).take (P.cellsOf f.type))) with
      | none => rw [hm] at e; cases e
      | some xs =>
        have := B τ 0 fs.toList fuel cs h2 (mapM_mem hm) (by omega)
        simpa using this
    · cases h
theorem fields_step {n : Nat} (A : TrodOk enc P w sp held n) (B : FieldsOk enc P w sp held n) : FieldsOk enc P w sp held (n + 1) := by
  intro τ off fs fuel cs h hf hlen
  rcases fs with _ | ⟨f, _ | ⟨g, fs⟩⟩
  · simp [fieldsAre] at h
  · unfold fieldsAre at h
    simp only [Bool.and_eq_true] at h
    obtain ⟨h1, h2, h3⟩ := h
    obtain ⟨⟨d, ps⟩, hy⟩ := hf f (by simp)
    rw [Nat.eq_of_beq_eq_true h1, Nat.eq_of_beq_eq_true h2, List.take_of_length_le (by rw [List.length_drop]; omega)] at hy
    exact A τ f.type fuel _ d ps h3 hy
  · cases τ <;> try (simp [fieldsAre] at h; done)
    rename_i a b
    unfold fieldsAre at h
    simp only [Bool.and_eq_true] at h
    obtain ⟨h1, h2, h3, h4⟩ := h
    obtain ⟨⟨d, ps⟩, hy⟩ := hf f (by simp)
    rw [Nat.eq_of_beq_eq_true h1, Nat.eq_of_beq_eq_true h2] at hy
    obtain ⟨x, q1, q2⟩ := A a f.type fuel _ d ps h3 hy
    simp only [Ty.size] at hlen
    obtain ⟨y, q3, q4⟩ := B b (off + a.size) (g :: fs) fuel cs h4 (fun f' hf' => hf f' (by simp [hf'])) (by omega)
    refine ⟨(show Val (.pair a b) from (x, y)), ⟨_, _, ?_, q1, q3⟩, q2, q4⟩
    rw [← List.drop_drop, List.take_append_drop]
theorem trod_both : ∀ n, TrodOk enc P w sp held n ∧ FieldsOk enc P w sp held n
  | 0 => ⟨fun τ t fuel cs d ps h _ => by simp [tyIs] at h, fun τ off fs fuel cs h _ _ => by simp [fieldsAre] at h⟩
  | n + 1 => ⟨trod_step (trod_both n).1 (trod_both n).2, fields_step (trod_both n).1 (trod_both n).2⟩
theorem trod_arg {n : Nat} {τ : Ty} {t : TypeId} {v : Value} {d : DataW H} {ps : List MemPlace} {r : Reach} {base : Nat} (ht : tyIs P n τ t = true) (h : DataW.Trod enc P w 0 sp held t v d ps) (hv : Value.okWide P w r base t v) : ∃ x : Val τ, ArgVal w free τ x v ∧ Rng τ x := by
  obtain ⟨fuel, hf⟩ := h
  obtain ⟨x, h1, h2⟩ := (trod_both n).1 τ t fuel _ d ps ht hf
  refine ⟨x, ⟨_, h1, ?_⟩, h2⟩
  cases n with
  | zero => simp [tyIs] at ht
  | succ n =>
    unfold tyIs at ht
    unfold Value.okWide at hv
    split at ht
    · rename_i hu
      rw [hu] at hv
      cases τ <;> try (cases ht; done)
      simp only [Cell.okWide, hu] at hv
      cases v <;> simp_all [Cell.ok, Value.cells, valOf, Ty.isAgg]
    · rename_i k hu
      rw [hu] at hv
      cases τ <;> try (cases ht; done)
      simp only [Cell.okWide, hu] at hv
      cases v <;> simp_all [Cell.ok, Value.cells, valOf, Ty.isAgg]
    · rename_i hu
      rw [hu] at hv
      cases τ <;> try (cases ht; done)
      simp only [Cell.okWide, hu] at hv
      cases v <;> simp_all [Cell.ok, Value.cells, valOf, Ty.isAgg]
    · rename_i el hu
      rw [hu] at hv
      cases τ <;> try (cases ht; done)
      simp only [Cell.okWide, hu] at hv
      cases v <;> simp_all [Cell.ok, Value.cells, valOf, Ty.isAgg]
    · rename_i fs hu
      rw [hu] at hv
      obtain ⟨cs, rfl, _, _⟩ := hv
      simp only [Bool.and_eq_true] at ht
      have hagg : τ.isAgg = true := ht.2.1
      simp [valOf, hagg, Value.cells]
    · cases ht
def tysAre (P : Program) : List Ty → List TypeId → Bool
  | [], [] => true
  | τ :: l, t :: ts => tyIs P 20 τ t && tysAre P l ts
  | _, _ => false
theorem trodT_AT {r : Reach} {base : Nat} : ∀ (l : List Ty) (τ : Ty) (t : TypeId) (ts : List TypeId) (v : Value) (vs : List Value) (ds : List (DataW H)) (ps : List MemPlace), tysAre P (τ :: l) (t :: ts) = true → DataW.TrodAll enc P w 0 sp held (t :: ts) (v :: vs) ds ps →
    (∀ (j : Nat) t' v', (t :: ts)[j]? = some t' → (v :: vs)[j]? = some v' → Value.okWide P w r base t' v') → ∃ x : Val (tys τ l), AT w free l τ x (v :: vs) ∧ Rng (tys τ l) x
  | l, τ, t, ts, v, vs, [], ps, _, h, _ => by cases h
  | [], τ, t, ts, v, vs, d :: ds, ps, hs, h, hv => by
    obtain ⟨p, q, h1, h2, _⟩ := h
    simp only [tysAre, Bool.and_eq_true] at hs
    have : ts = [] := by cases ts with | nil => rfl | cons => simp [tysAre] at hs
    subst this
    have hvs : vs = [] := by cases vs with | nil => rfl | cons => exact h2.elim
    subst hvs
    obtain ⟨x, g1, g2⟩ := trod_arg hs.1 h1 (hv 0 t v rfl rfl)
    exact ⟨x, ⟨v, rfl, g1⟩, g2⟩
  | u :: l, τ, t, ts, v, vs, d :: ds, ps, hs, h, hv => by
    obtain ⟨p, q, h1, h2, _⟩ := h
    simp only [tysAre, Bool.and_eq_true] at hs
    obtain ⟨x, g1, g2⟩ := trod_arg hs.1 h1 (hv 0 t v rfl rfl)
    rcases ts with _ | ⟨t2, ts⟩
    · simp [tysAre] at hs
    · rcases vs with _ | ⟨v2, vs⟩
      · exact h2.elim
      · obtain ⟨y, g3, g4⟩ := trodT_AT l u t2 ts v2 vs ds q hs.2 h2 fun j t' v' a b => hv (j + 1) t' v' (by simpa using a) (by simpa using b)
        exact ⟨(show Val (.pair τ (tys u l)) from (x, y)), ⟨v, v2 :: vs, rfl, g1, g3⟩, g2, g4⟩
theorem trodL_AL {r : Reach} {base : Nat} {l : List Ty} {ts : List TypeId} {vs : List Value} {ds : List (DataW H)} {ps : List MemPlace} (hs : tysAre P l ts = true) (h : DataW.TrodAll enc P w 0 sp held ts vs ds ps)
    (hv : ∀ (j : Nat) t' v', ts[j]? = some t' → vs[j]? = some v' → Value.okWide P w r base t' v') : ∃ x : Val (tyL l), AL w free l x vs ∧ Rng (tyL l) x := by
  rcases l with _ | ⟨τ, l⟩
  · have : ts = [] := by cases ts with | nil => rfl | cons => simp [tysAre] at hs
    subst this
    have hvs : vs = [] := by cases vs with | nil => rfl | cons => cases ds <;> exact h.elim
    exact ⟨(show Val .unit from ()), hvs, trivial⟩
  · rcases ts with _ | ⟨t, ts⟩
    · simp [tysAre] at hs
    · rcases vs with _ | ⟨v, vs⟩
      · cases ds <;> exact h.elim
      · exact trodT_AT l τ t ts v vs ds ps hs h hv
theorem trodAll_below (hl : laidOutB P = true) {W W' : World} (hb : Below W.heap.size W W') : ∀ {ts : List TypeId} {vs : List Value} {ds : List (DataW H)} {ps : List MemPlace}, (ts.all fun t => P.readableRec t && decide (t < P.types.size)) = true → DataW.TrodAll enc P W 0 (fun _ => true) true ts vs ds ps → (∀ x ∈ ps, x.block < W.heap.size) →
    DataW.TrodAll enc P W' 0 (fun b => decide (b < W.heap.size)) true ts vs ds ps
  | [], [], [], ps, _, h, _ => h
  | t :: ts, v :: vs, d :: ds, ps, hr, h, hlt => by
    obtain ⟨p, q, h1, h2, rfl⟩ := h
    simp only [List.all_cons, Bool.and_eq_true, decide_eq_true_eq] at hr
    exact ⟨p, q, Below.trod hl hr.1.1 hr.1.2 h1 hb (fun x hx => hlt x (List.mem_append_left _ hx)), trodAll_below hl hb (by simpa using hr.2) h2 (fun x hx => hlt x (List.mem_append_right _ hx)), rfl⟩
  | [], [], _ :: _, _, _, h, _ => h.elim
  | [], _ :: _, _, _, _, h, _ => by cases ‹List (DataW H)› <;> exact h.elim
  | _ :: _, [], _, _, _, h, _ => by cases ‹List (DataW H)› <;> exact h.elim
  | _ :: _, _ :: _, [], _, _, h, _ => h.elim
theorem trodAll_len {W : World} : ∀ {ts : List TypeId} {vs : List Value} {ds : List (DataW H)} {ps : List MemPlace}, DataW.TrodAll enc P W 0 sp held ts vs ds ps → ds.length = ts.length
  | [], [], [], _, _ => rfl
  | _ :: _, _ :: _, _ :: _, _, h => by obtain ⟨p, q, _, h2, _⟩ := h; simp [trodAll_len h2]
  | [], [], _ :: _, _, h => h.elim
  | [], _ :: _, ds, _, h => by cases ds <;> exact h.elim
  | _ :: _, [], ds, _, h => by cases ds <;> exact h.elim
  | _ :: _, _ :: _, [], _, h => h.elim
theorem law_lifted {C : Checked} {os : Os} {f : FuncId} {fn : Func} {s : ChangeSpec} {conds : List PathCond} {p : PFun} {tb : TypeId} (own : ownKnob C.prog.godebug = none) (started : os.Started) (noInit : C.prog.inits.idxOf? f = none) (hfn : C.prog.funcs[f]? = some fn)
    (witness : ∃ (w : World) (tape : Tape) (i : Input), w.os = os ∧ (w.forCall tape i).Shaped C.prog ∧ i.vars = [] ∧ Input.okWide C.prog (w.forCall tape i) .any w.heap.size f i ∧
      s.pre6 enc C.prog fn conds false (w.forCall tape i).memory i.args ∧ ({} : Assume).holds C.prog (lone (Frame.enter C.prog f i.args .normal) [] (w.forCall tape i)))
    (hp : PureOk C.prog f p) (hrs : p.rs = [.bool]) (law : ∀ x : Val (tyL p.ts), Rng (tyL p.ts) x → p.F x = some (hrs ▸ (show Val (tyL [.bool]) from true))) (htys : tysAre C.prog p.ts fn.params.toList = true) (hsv : s.vars = [])
    (hs : ∀ ds : List (DataW H), ds.length = fn.params.toList.length → s.fn H ds = { results := [.lit (.bool true)], args := ds }) (hl : laidOutB C.prog = true) (hrd : (fn.params.toList.all fun t => C.prog.readableRec t && decide (t < C.prog.types.size)) = true)
    (hres : fn.resultTypes = #[tb]) (hbool : C.prog.underlying tb = some .bool) :
    ReturnsInHanded {} C os f .any (s.pre6 enc C.prog fn conds false) (s.post enc C.prog fn false true false false) := by
  refine returnsInHanded_of_change own started noInit hfn witness ?_
  intro W base args ds gs before hval hW _ _
  have hW' := hW
  obtain ⟨pa, q, hA, hV, rfl, _, _⟩ := hW
  have hgs : gs = [] ∧ q = [] := by
    rw [hsv] at hV
    cases gs with
    | nil => exact ⟨rfl, hV⟩
    | cons => exact hV.elim
  obtain ⟨rfl, rfl⟩ := hgs
  obtain ⟨x, h1, h2⟩ := trodL_AL htys hA (r := .any) (base := base) fun j t v ht hv => hval j t v (by simpa using ht) (by simpa using hv)
  simp only [List.append_nil] at hW'
  have hlt : ∀ x ∈ pa, x.block < W.heap.size := fun x hx => by simpa using hW'.lt x hx
  refine (callsIn_wide (n := 0)).1 ((hp free x _ (law x h2) W args.toList (fun _ h => h.elim) h1).2.mono fun e W' hw => ?_)
  obtain ⟨u, rfl, k1, k2, k3, k4, k5, k6⟩ := hw
  have hu : u = .bool true := by
    obtain ⟨ts, rs, F⟩ := p
    dsimp only at hrs k1
    subst hrs
    obtain ⟨us, c1, rfl⟩ := k1
    have : us = [.bool true] := c1
    rw [this]; rfl
  subst hu
  have hb : Below W.heap.size W W' := ⟨k4, k5, k6, k3, k2⟩
  have hds : s.fn H (ds ++ []) = { results := [.lit (.bool true)], args := ds } := by rw [List.append_nil]; exact hs ds (trodAll_len hA)
  refine ⟨_, rfl, ds, [], pa, [], pa, [], hW', ?_, ?_, ?_, hb.frame _, fun h => by cases h⟩
  · rw [hds, hres]
    exact trodAll_mk1 (shut_bool hbool _)
  · rw [hds]
    exact trodAll_below hl hb hrd hA hlt
  · rw [hds, hsv]; rfl
end
theorem joined_of {P : Program} {f : FuncId} {fn : Func} {s : ChangeSpec} {c : OpenClaim} (h1 : c.wf (OpenSpec.ofChange s) = true) (h2 : laidOutB P = true) (h3 : mapsRowed P = true) (h4 : fn.params.all (P.readableRec ·) = true) (h5 : namedTie P c.named s.vars = true)
    (h6 : (c.stops == []) = true) (h7 : (P.stops == []) = true) (h8 : (c.knobs == []) = true) (h9 : (P.stopKnobs == []) = true) (h10 : (c.inPlace == P.inPlace f) = true) (h11 : (c.unfollowed == P.unfollowed f) = true) (h12 : (c.recurses == P.recurses f) = true) (h13 : (c.named == P.varsNamed f) = true)
    (h14 : (c.maps == (fn.params.toList ++ s.plain.varTypes P).any (P.mapsRec ·)) = true) (h15 : (c.ifaces == (fn.params.toList ++ s.plain.varTypes P).any (P.ifacesRec ·)) = true) (h16 : (c.mapsOut == P.mapsAmong fn.resultTypes.toList) = true)
    (h17 : (c.loops == (fn.params.toList ++ s.plain.varTypes P).any (P.loopsFrom ·)) = true) (h18 : (c.wideKeys == (fn.params.toList ++ s.plain.varTypes P ++ fn.resultTypes.toList).any (P.wideKeysFrom ·)) = true)
    (h19 : s.vars.all (P.varReadable ·) = true) (h20 : fn.resultTypes.all (fun t => P.readableRec t && decide (t < P.types.size)) = true) (h21 : (c.ifacesOut == fn.resultTypes.toList.any (P.ifacesRec ·)) = true) (h22 : (c.loopsOut == fn.resultTypes.toList.any (P.loopsFrom ·)) = true)
    (h23 : (c.plainKeys == P.plainKeys) = true) (h24 : c.shortTexts.isNone = true) (h25 : P.stopsHeard = true) (h26 : P.mayEnter = true) (h27 : (c.lifted == P.liftsFinal) = true) (h28 : (P.make == some c.make) = true)
    (h29 : (c.kinds == (if c.domain.isEmpty then [] else fn.params.toList.map fun t => match P.underlying t with | some (.int k) => some k | _ => none)) = true) (h30 : (c.pinned == c.pinnedBy) = true)
    (h31 : (c.veiled == (fn.params.toList ++ s.plain.varTypes P ++ fn.resultTypes.toList).any (P.veiledRec ·)) = true) (h32 : c.veiledFits P fn.params.toList (fn.params.toList ++ s.plain.varTypes P ++ fn.resultTypes.toList) = true) : joinedFacts P f fn s c = true := by
  unfold joinedFacts
  simp only [h1, h2, h3, h4, h5, h6, h7, h8, h9, h10, h11, h12, h13, h14, h15, h16, h17, h18, h19, h20, h21, h22, h23, h24, h25, h26, h27, h28, h30, h31, h32, Bool.and_true]
  exact h29
end Go.Am
end
