/- lemmas: AmLoc AmDraw AmReg AmTop -/
import Derived.Test.YtfkfjebiaelniaaGreatAmB
set_option linter.all false
set_option linter.unusedSectionVars false
set_option linter.unusedVariables false
set_option linter.unusedSimpArgs false
noncomputable section
namespace Go.Am
variable [Ghost]
section
variable {ρ : Type} {P : Program} {h h2 : List Blk} {t t2 : List AV}
def SameAt (h h2 : List Blk) (v : AV) : Prop := ∀ id ∈ refs2 h v, lkB h2 id = lkB h id
theorem SameAt.one {v : AV} (hs : SameAt h h2 v) : ∀ id ∈ refs1 v, lkB h2 id = lkB h id := fun id hi => hs id (by simp only [refs2, List.mem_append]; exact .inl hi)
theorem SameAt.refs {v : AV} (hs : SameAt h h2 v) : refs2 h2 v = refs2 h v := by
  simp only [refs2]
  have : ∀ (l : List Nat), (∀ id ∈ l, lkB h2 id = lkB h id) → (l.flatMap fun id => (cellsB (lkB h2 id)).flatMap refs0) = l.flatMap fun id => (cellsB (lkB h id)).flatMap refs0 := by
    intro l
    induction l with
    | nil => intro _; rfl
    | cons x l ih => intro hl; simp only [List.flatMap_cons]; rw [hl x (by simp), ih fun id hi => hl id (by simp [hi])]
  rw [this _ hs.one]
theorem snap1_same {v : AV} (hs : ∀ id ∈ refs0 v, lkB h2 id = lkB h id) : snap1 h2 v = snap1 h v := by
  cases v <;> first
    | rfl
    | (simp only [snap1]; rw [hs _ (by simp [refs0])])
theorem snap_same {v : AV} (hs : ∀ id ∈ refs1 v, lkB h2 id = lkB h id) : snap h2 v = snap h v := by
  have one : (∀ id ∈ refs0 v, lkB h2 id = lkB h id) → snap1 h2 v = snap1 h v := snap1_same
  cases v with
  | agg cs =>
    simp only [snap, AV.agg.injEq]
    exact List.map_congr_left fun c hc => snap1_same fun id hi => hs id (List.mem_flatMap.2 ⟨c, hc, hi⟩)
  | _ => exact one hs
theorem loadK_same {ty : TypeId} {a : AV} (hs : ∀ id ∈ refs1 a, lkB h2 id = lkB h id) (K : AV → Option ρ) : loadK P h2 ty a K = loadK P h ty a K := by
  cases a <;> first
    | rfl
    | (simp only [loadK]; rw [hs _ (by simp [refs1, refs0])])
theorem shiftK_same {o : Nat} {a : AV} (hs : ∀ id ∈ refs1 a, lkB h2 id = lkB h id) (K : AV → Option ρ) : shiftK h2 a o K = shiftK h a o K := by
  cases a <;> first
    | rfl
    | (simp only [shiftK]; rw [hs _ (by simp [refs1, refs0])])
theorem indexK_same {sz : Nat} {a i : AV} (hs : ∀ id ∈ refs1 a, lkB h2 id = lkB h id) (K : AV → Option ρ) : indexK sz h2 a i K = indexK sz h a i K := by
  cases i <;> try rfl
  cases a <;> first
    | rfl
    | (simp only [indexK]; rw [hs _ (by simp [refs1, refs0])])
theorem lenK_same {d : Option TypeDesc} {a : AV} (hs : ∀ id ∈ refs1 a, lkB h2 id = lkB h id) (K : AV → Option ρ) : lenK d h2 a K = lenK d h a K := by
  unfold lenK
  split <;> cases a <;> first
    | rfl
    | (simp only []; rw [hs _ (by simp [refs1, refs0])])
theorem lookupK_same {ty : TypeId} {m i : AV} {ok : Bool} (hs : ∀ id ∈ refs1 m, lkB h2 id = lkB h id) (K : AV → Option ρ) : lookupK P h2 ty m i ok K = lookupK P h ty m i ok K := by
  unfold lookupK
  have : snap1 h2 m = snap1 h m := snap1_same fun id hi => hs id (by cases m <;> first | exact hi | simp [refs0] at hi)
  rw [this]
theorem sliceK_still {σ : Type} {sz : Nat} {a : AV} {lo hi : Option AV} (K : AV → List Blk → Option σ) : sliceK sz h a lo hi false K = (sliceK sz h a lo hi false fun v _ => some v).bind fun v => K v h := by
  unfold sliceK
  dsimp only
  (repeat' split) <;> rfl
theorem sliceK_same {sz : Nat} {a : AV} {lo hi : Option AV} (hs : ∀ id ∈ refs1 a, lkB h2 id = lkB h id) : ∃ φ : Option AV, (∀ {σ : Type} (K : AV → List Blk → Option σ), sliceK sz h a lo hi false K = φ.bind fun v => K v h) ∧ ∀ {σ : Type} (K : AV → List Blk → Option σ), sliceK sz h2 a lo hi false K = φ.bind fun v => K v h2 := by
  refine ⟨sliceK sz h a lo hi false fun v _ => some v, fun K => ?_, fun K => ?_⟩
  · exact sliceK_still K
  · rw [sliceK_still K]
    congr 1
    cases a <;> first
      | rfl
      | (simp only [sliceK]; rw [hs _ (by simp [refs1, refs0])])
def ap (nid : Nat) (ef : Option Blk) (h : List Blk) : List Blk := match ef with | none => h | some B => updB h nid B
theorem pbind {α σ σ2 : Type} {R : Option σ → Option σ2 → Prop} (h0 : R none none) {x : Option α} {K : α → Option σ} {K2 : α → Option σ2} (h : ∀ a, R (K a) (K2 a)) : R (x.bind K) (x.bind K2) := by
  cases x with
  | none => exact h0
  | some a => exact h a
theorem pb2 {α σ σ2 : Type} {R : Option σ → Option σ2 → Prop} (h0 : R none none) {x : Option α} {K : α → Option σ} {K2 : α → Option σ2} {z : Option σ} {z2 : Option σ2} (h1 : z = x.bind K) (h2 : z2 = x.bind K2) (h : ∀ a, R (K a) (K2 a)) : R z z2 := by
  subst h1 h2; exact pbind h0 h
theorem map_ev {l : List Operand} (hx : ∀ x ∈ l, ev t2 x = ev t x) : l.map (ev t2) = l.map (ev t) := List.map_congr_left hx
theorem map_ev2 {l : List (Nat × Operand)} (hx : ∀ x ∈ l.map (·.2), ev t2 x = ev t x) : (l.map fun p => (p.1, ev t2 p.2)) = l.map fun p => (p.1, ev t p.2) := List.map_congr_left fun p hp => by rw [hx p.2 (List.mem_map.2 ⟨p, hp, rfl⟩)]
theorem frz_plain {v : AV} (hv : anyOwn v = false) : frz h v = h := by
  have one : ∀ c, anyOwn1 c = false → frz1 h c = h := fun c hc => by cases c <;> first | rfl | cases hc
  have this1 := one v
  cases v with
  | agg cs =>
    simp only [anyOwn, List.any_eq_false] at hv
    simp only [frz]
    clear this1
    induction cs with
    | nil => rfl
    | cons c cs ih => simp only [frzL]; rw [one c (by simpa using hv c (by simp))]; exact ih fun x hx => hv x (by simp [hx])
  | _ => exact this1 hv
theorem frzA_plain : ∀ {ps : List (Nat × AV)}, (∀ p ∈ ps, anyOwn p.2 = false) → frzA h ps = h
  | [], _ => rfl
  | p :: ps, hp => by
    obtain ⟨i, v⟩ := p
    simp only [frzA]
    rw [frz_plain (hp (i, v) (by simp))]
    exact frzA_plain fun q hq => hp q (by simp [hq])
theorem rowOf_same {ty : Ty} : ∀ {ps : List (Nat × AV)} {n : Nat}, (∀ p ∈ ps, ∀ id ∈ refs1 p.2, lkB h2 id = lkB h id) → rowOf h2 ty n ps = rowOf h ty n ps
  | [], _, _ => rfl
  | (i, v) :: ps, n, hp => by
    simp only [rowOf]
    rw [snap_same (hp (i, v) (by simp)), rowOf_same fun q hq => hp q (by simp [hq])]
theorem op_par {σ σ2 : Type} {R : Option σ → Option σ2 → Prop} {E : Env ρ} {o : Op} {nid : Nat} {K : AV → St → Option σ} {K2 : AV → St → Option σ2} (h0 : R none none) (hcl : cls E o ≤ 1) (hcall : isCall o = false)
    (hx : ∀ x ∈ o.operands.toList, ev t2 x = ev t x) (hs : cls E o = 1 → ∀ x ∈ o.operands.toList, ∀ id ∈ refs1 (ev t x), lkB h2 id = lkB h id)
    (hb : ∀ ty n ps, o = .buildSlice ty n ps → ps.toList.all (fun p => !anyOwn (ev t p.2)) = true)
    (hK : ∀ v ef, (ef.isSome = true → allocs E.clone o = true) → R (K v { t := t, h := ap nid ef h }) (K2 v { t := t2, h := ap nid ef h2 })) :
    R (opK P { t := t, h := h } nid false o K) (opK P { t := t2, h := h2 } nid false o K2) := by
  have hn : ∀ v, R (K v { t := t, h := h }) (K2 v { t := t2, h := h2 }) := fun v => hK v none (by simp)
  have ha : allocs E.clone o = true → ∀ v B, R (K v { t := t, h := updB h nid B }) (K2 v { t := t2, h := updB h2 nid B }) := fun al v B => hK v (some B) fun _ => al
  cases o with
  | move x =>
    have e := hx x (by simp [Op.operands])
    simp only [opK, e]; exact hn _
  | assign x =>
    have e := hx x (by simp [Op.operands])
    simp only [opK, e]; exact hn _
  | pick c a b =>
    have e1 := hx c (by simp [Op.operands])
    have e2 := hx a (by simp [Op.operands])
    have e3 := hx b (by simp [Op.operands])
    simp only [opK, e1, e2, e3]
    (repeat' split) <;> first | exact h0 | exact hn _
  | box _ x =>
    have e := hx x (by simp [Op.operands])
    simp only [opK, e]
    (repeat' split) <;> first | exact h0 | exact ha rfl _ _
  | alloc e =>
    simp only [opK]
    (repeat' split) <;> first | exact h0 | exact ha rfl _ _
  | build ty ps =>
    have e := map_ev2 (l := ps.toList) (t := t) (t2 := t2) fun x hm => hx x (by simpa [Op.operands] using hm)
    simp only [opK, e]
    (repeat' split) <;> first | exact h0 | exact hn _
  | buildSlice ty n ps =>
    have e := map_ev2 (l := ps.toList) (t := t) (t2 := t2) fun x hm => hx x (by simpa [Op.operands] using hm)
    have hown := hb ty n ps rfl
    have hf : ∀ h : List Blk, frzA h (ps.toList.map fun p => (p.1, ev t p.2)) = h := fun h => frzA_plain fun p hp => by
      obtain ⟨q, hq, rfl⟩ := List.mem_map.1 hp
      simpa using List.all_eq_true.1 hown q hq
    have hr : ∀ ty n, rowOf h2 ty n (ps.toList.map fun p => (p.1, ev t p.2)) = rowOf h ty n (ps.toList.map fun p => (p.1, ev t p.2)) := fun ty n => rowOf_same fun p hp => by
      obtain ⟨q, hq, rfl⟩ := List.mem_map.1 hp
      exact hs rfl q.2 (by simpa [Op.operands] using ⟨q.1, by simpa using hq⟩)
    simp only [opK, e, hf, hr]
    (repeat' split) <;> first | exact h0 | exact ha rfl _ _
  | load ty a =>
    have e := hx a (by simp [Op.operands])
    have hsa := hs rfl a (by simp [Op.operands])
    simp only [opK, e]
    rw [loadK_same hsa]
    exact pb2 h0 (loadK_nat ..) (loadK_nat ..) fun v => hn v
  | nilCheck x =>
    have e := hx x (by simp [Op.operands])
    have hsa := hs rfl x (by simp [Op.operands])
    simp only [opK, e]
    cases hv : ev t x with
    | optr id g i off =>
      have := hsa id (by rw [hv]; simp [refs1, refs0])
      simp only [this]
      (repeat' split) <;> first | exact h0 | exact hn _
    | _ => first | exact h0 | exact hn _
  | binOp op ty x y yt =>
    have e1 := hx x (by simp [Op.operands])
    have e2 := hx y (by simp [Op.operands])
    simp only [opK, e1, e2]
    exact pb2 h0 (binK_nat ..) (binK_nat ..) fun v => hn v
  | unOp op ty x =>
    have e := hx x (by simp [Op.operands])
    simp only [opK, e]
    (repeat' split) <;> first | exact h0 | exact hn _ | exact pb2 h0 (arK_nat ..) (arK_nat ..) fun v => hn v
  | convert src dst x =>
    have e := hx x (by simp [Op.operands])
    simp only [opK, e]
    (repeat' split) <;> first | exact h0 | exact hn _
  | makeFunc fn first captured =>
    have e1 := map_ev (l := first.toList) (t := t) (t2 := t2) fun x hm => hx x (by simp [Op.operands]; exact .inl (by simpa using hm))
    have e2 := map_ev (l := captured.toList) (t := t) (t2 := t2) fun x hm => hx x (by simp [Op.operands]; exact .inr (by simpa using hm))
    simp only [opK, e1, e2]
    (repeat' split) <;> first | exact h0 | exact hn _
  | makeMap ty r =>
    simp only [opK]
    (repeat' split) <;> first | exact h0 | exact ha rfl _ _
  | makeSlice ty l c =>
    have e := hx l (by simp [Op.operands])
    simp only [opK, e]
    (repeat' split) <;> first | exact h0 | exact ha rfl _ _
  | slice ty x lo hi mx =>
    have e := hx x (by simp [Op.operands])
    have hsa := hs rfl x (by simp [Op.operands])
    have e1 : lo.map (ev t2) = lo.map (ev t) := by
      cases lo with
      | none => rfl
      | some l => simp [hx l (by simp [Op.operands])]
    have e2 : hi.map (ev t2) = hi.map (ev t) := by
      cases hi with
      | none => rfl
      | some l => simp [hx l (by simp [Op.operands])]
    simp only [opK, e, e1, e2]
    (repeat' split) <;> first
      | exact h0
      | (obtain ⟨φ, q1, q2⟩ := sliceK_same hsa
         rw [q1, q2]
         exact pbind h0 fun v => hn v)
  | fieldAddr ty x f =>
    have e := hx x (by simp [Op.operands])
    have hsa := hs rfl x (by simp [Op.operands])
    simp only [opK, e]
    (repeat' split) <;> first
      | exact h0
      | (rw [shiftK_same hsa]; exact pb2 h0 (shiftK_nat ..) (shiftK_nat ..) fun v => hn v)
  | field ty x f =>
    have e := hx x (by simp [Op.operands])
    simp only [opK, e]
    (repeat' split) <;> first | exact h0 | exact hn _
  | indexAddr ty x i =>
    have e1 := hx x (by simp [Op.operands])
    have e2 := hx i (by simp [Op.operands])
    have hsa := hs rfl x (by simp [Op.operands])
    simp only [opK, e1, e2]
    (repeat' split) <;> first
      | exact h0
      | exact hn _
      | exact pb2 h0 (pickK_nat ..) (pickK_nat ..) fun v => hn _
      | (rw [indexK_same hsa]; exact pb2 h0 (indexK_nat ..) (indexK_nat ..) fun v => hn v)
  | index ty x i =>
    have e1 := hx x (by simp [Op.operands])
    have e2 := hx i (by simp [Op.operands])
    simp only [opK, e1, e2]
    (repeat' split) <;> first | exact h0 | exact hn _ | exact pb2 h0 (pickK_nat ..) (pickK_nat ..) fun v => by (repeat' split) <;> first | exact h0 | exact hn _
  | lookup ty m i ok =>
    have e1 := hx m (by simp [Op.operands])
    have e2 := hx i (by simp [Op.operands])
    have hsa := hs rfl m (by simp [Op.operands])
    simp only [opK, e1, e2]
    rw [lookupK_same hsa]
    exact pb2 h0 (lookupK_nat ..) (lookupK_nat ..) fun v => hn v
  | extract x i =>
    have e := hx x (by simp [Op.operands])
    simp only [opK, e]
    (repeat' split) <;> first | exact h0 | exact hn _
  | call c =>
    obtain ⟨callee, args, tys⟩ := c
    cases callee with
    | builtin b =>
      have e := map_ev (l := args.toList) (t := t) (t2 := t2) fun x hm => hx x (by simpa [Op.operands, Call.operands] using hm)
      have hsa : cls E (.call ⟨.builtin b, args, tys⟩) = 1 → ∀ x ∈ args.toList, ∀ id ∈ refs1 (ev t x), lkB h2 id = lkB h id := fun h1 x hm => hs h1 x (by simpa [Op.operands, Call.operands] using hm)
      generalize hl : args.toList = l at e hsa
      generalize hm : tys.toList = m
      cases b with
      | append => simp [cls] at hcl
      | clear => simp [cls] at hcl
      | len =>
        rcases l with _ | ⟨x, _ | ⟨y, l⟩⟩ <;> rcases m with _ | ⟨ty, m⟩ <;> simp only [opK, hl, hm] <;> try exact h0
        have e1 : ev t2 x = ev t x := by simpa using e
        rw [e1, lenK_same (hsa rfl x (by simp))]
        exact pb2 h0 (lenK_nat ..) (lenK_nat ..) fun v => hn v
      | cap =>
        rcases l with _ | ⟨x, _ | ⟨y, l⟩⟩ <;> rcases m with _ | ⟨ty, m⟩ <;> simp only [opK, hl, hm] <;> try exact h0
        have e1 : ev t2 x = ev t x := by simpa using e
        rw [e1]
        (repeat' split) <;> first | exact h0 | exact hn _
      | min =>
        rcases l with _ | ⟨x, l⟩ <;> simp only [opK, hl, hm] <;> try exact h0
        simp only [List.map_cons, List.cons.injEq] at e
        rw [e.1, e.2]
        exact pb2 h0 (minmaxK_nat _ _ _ _) (minmaxK_nat _ _ _ _) fun v => hn v
      | max =>
        rcases l with _ | ⟨x, l⟩ <;> simp only [opK, hl, hm] <;> try exact h0
        simp only [List.map_cons, List.cons.injEq] at e
        rw [e.1, e.2]
        exact pb2 h0 (minmaxK_nat _ _ _ _) (minmaxK_nat _ _ _ _) fun v => hn v
      | _ => simp only [opK]; (repeat' split) <;> first | exact h0 | contradiction
    | value f => cases hcall
    | invoke r m => exact h0
  | store => simp [cls] at hcl
  | mapUpdate => simp [cls] at hcl
  | _ => exact h0
def aps (ups : List (Nat × Blk)) (h : List Blk) : List Blk := ups.foldl (fun h p => updB h p.1 p.2) h
theorem aps_nil : aps [] h = h := rfl
theorem aps_one {id : Nat} {B : Blk} : aps [(id, B)] h = updB h id B := rfl
theorem aps_append {u v : List (Nat × Blk)} : aps (u ++ v) h = aps v (aps u h) := by simp [aps]
theorem length_aps : ∀ (ups : List (Nat × Blk)) (h : List Blk), (aps ups h).length = h.length
  | [], _ => rfl
  | p :: ups, h => by show (aps ups (updB h p.1 p.2)).length = _; rw [length_aps ups, length_updB]
theorem aps_ne {id : Nat} : ∀ {ups : List (Nat × Blk)} {h : List Blk}, (∀ p ∈ ups, p.1 ≠ id) → lkB (aps ups h) id = lkB h id
  | [], _, _ => rfl
  | p :: ups, h, hn => by
    show lkB (aps ups (updB h p.1 p.2)) id = _
    rw [aps_ne fun q hq => hn q (by simp [hq]), lkB_updB_ne _ (Ne.symm (hn p (by simp)))]
theorem aps_same {id : Nat} : ∀ {ups : List (Nat × Blk)} {h h2 : List Blk}, h2.length = h.length → lkB h2 id = lkB h id → lkB (aps ups h2) id = lkB (aps ups h) id
  | [], _, _, _, he => he
  | p :: ups, h, h2, hl, he => aps_same (ups := ups) (h := updB h p.1 p.2) (h2 := updB h2 p.1 p.2) (by simp [length_updB, hl]) (by simp only [lkB_updB, hl, he])
theorem frz1_aps {v : AV} (hs : ∀ id ∈ refs0 v, lkB h2 id = lkB h id) : ∃ ups, frz1 h v = aps ups h ∧ frz1 h2 v = aps ups h2 ∧ ∀ p ∈ ups, p.1 ∈ refs0 v := by
  have no : frz1 h v = h → frz1 h2 v = h2 → ∃ ups, frz1 h v = aps ups h ∧ frz1 h2 v = aps ups h2 ∧ ∀ p ∈ ups, p.1 ∈ refs0 v := fun h1 h2' => ⟨[], h1, h2', by simp⟩
  cases v with
  | own id g =>
    have e := hs id (by simp [refs0])
    cases hl : lkB h id with
    | row t g fz xs =>
      rw [hl] at e
      exact ⟨[(id, .row t g true xs)], by simp only [frz1, hl]; rfl, by simp only [frz1, e]; rfl, by simp [refs0]⟩
    | _ => rw [hl] at e; exact no (by simp only [frz1, hl]) (by simp only [frz1, e])
  | sub id g lo n =>
    have e := hs id (by simp [refs0])
    cases hl : lkB h id with
    | row t g fz xs =>
      rw [hl] at e
      exact ⟨[(id, .row t g true xs)], by simp only [frz1, hl]; rfl, by simp only [frz1, e]; rfl, by simp [refs0]⟩
    | _ => rw [hl] at e; exact no (by simp only [frz1, hl]) (by simp only [frz1, e])
  | _ => exact no rfl rfl
theorem frzL_aps : ∀ {cs : List AV} {h h2 : List Blk}, h2.length = h.length → (∀ c ∈ cs, ∀ id ∈ refs0 c, lkB h2 id = lkB h id) → ∃ ups, frzL h cs = aps ups h ∧ frzL h2 cs = aps ups h2 ∧ ∀ p ∈ ups, ∃ c ∈ cs, p.1 ∈ refs0 c
  | [], _, _, _, _ => ⟨[], rfl, rfl, by simp⟩
  | c :: cs, h, h2, hl, hs => by
    obtain ⟨u, h1, h2', h3⟩ := frz1_aps (hs c (by simp))
    obtain ⟨v, h4, h5, h6⟩ := frzL_aps (cs := cs) (h := frz1 h c) (h2 := frz1 h2 c) (by rw [frz1_length, frz1_length, hl]) (fun d hd id hi => by rw [h1, h2']; exact aps_same hl (hs d (by simp [hd]) id hi))
    refine ⟨u ++ v, by simp only [frzL]; rw [h4, h1, aps_append], by simp only [frzL]; rw [h5, h2', aps_append], fun p hp => ?_⟩
    rcases List.mem_append.1 hp with hp | hp
    · exact ⟨c, by simp, h3 p hp⟩
    · obtain ⟨d, hd, hi⟩ := h6 p hp
      exact ⟨d, by simp [hd], hi⟩
theorem frz_aps {v : AV} (hl : h2.length = h.length) (hs : ∀ id ∈ refs1 v, lkB h2 id = lkB h id) : ∃ ups, frz h v = aps ups h ∧ frz h2 v = aps ups h2 ∧ ∀ p ∈ ups, p.1 ∈ refs1 v := by
  have one : (∀ id ∈ refs0 v, lkB h2 id = lkB h id) → ∃ ups, frz1 h v = aps ups h ∧ frz1 h2 v = aps ups h2 ∧ ∀ p ∈ ups, p.1 ∈ refs0 v := frz1_aps
  cases v with
  | agg cs =>
    obtain ⟨u, h1, h2', h3⟩ := frzL_aps (cs := cs) hl fun c hc id hi => hs id (List.mem_flatMap.2 ⟨c, hc, hi⟩)
    exact ⟨u, h1, h2', fun p hp => List.mem_flatMap.2 (h3 p hp)⟩
  | _ => exact one hs
theorem snapRow_same {ty : Ty} {x : AV} (hs : ∀ id ∈ refs1 x, lkB h2 id = lkB h id) : unflatAll (.slice ty) [snap1 h2 x] = unflatAll (.slice ty) [snap1 h x] := by
  have : snap1 h2 x = snap1 h x := snap1_same fun id hi => hs id (by cases x <;> first | exact hi | simp [refs0] at hi)
  rw [this]
theorem cells_refs {v : AV} {vs : List AV} (hc : cellsO v = some vs) : ∀ c ∈ vs, ∀ id ∈ refs0 c, id ∈ refs1 v := by
  intro c hm id hi
  cases v <;> simp only [cellsO, Option.some.injEq, reduceCtorEq] at hc <;> subst hc
  all_goals first
    | (simp only [List.mem_singleton] at hm; subst hm; exact hi)
    | exact List.mem_flatMap.2 ⟨c, hm, hi⟩
theorem store_par {σ σ2 : Type} {R : Option σ → Option σ2 → Prop} {ty : TypeId} {a v : AV} {K : List Blk → Option σ} {K2 : List Blk → Option σ2} (h0 : R none none) (hlen : h2.length = h.length)
    (s1 : ∀ id ∈ refs1 a, lkB h2 id = lkB h id) (s2 : ∀ id ∈ refs1 v, lkB h2 id = lkB h id) (hK : ∀ ups, (∀ p ∈ ups, p.1 ∈ refs1 a ∨ p.1 ∈ refs1 v) → R (K (aps ups h)) (K2 (aps ups h2))) : R (storeK P h ty a v K) (storeK P h2 ty a v K2) := by
  unfold storeK
  split <;> try exact h0
  rename_i vs hvs
  split <;> try exact h0
  split <;> try exact h0
  · rename_i id off
    have e3 := s1 id (by simp [refs1, refs0])
    rw [e3]
    (repeat' split) <;> first
      | exact h0
      | exact hK [(id, _)] fun p hp => .inl (by simp only [List.mem_singleton] at hp; subst hp; simp [refs1, refs0])
  · rename_i id g i off
    have e3 := s1 id (by simp [refs1, refs0])
    obtain ⟨u, f1, f2, f3⟩ := frz_aps (v := v) hlen s2
    have e4 : lkB (frz h2 v) id = lkB (frz h v) id := by rw [f1, f2]; exact aps_same hlen e3
    have e5 : vs.map (snap1 h2) = vs.map (snap1 h) := List.map_congr_left fun c hc => snap1_same fun id hi => s2 id (cells_refs hvs c hc id hi)
    rw [e4, e5]
    (repeat' split) <;> first
      | exact h0
      | (rw [f1, f2]
         refine hK (u ++ [(id, _)]) (fun p hp => ?_) |> fun q => (by simpa only [aps_append, aps_one] using q)
         rcases List.mem_append.1 hp with hp | hp
         · exact .inr (f3 p hp)
         · exact .inl (by simp only [List.mem_singleton] at hp; subst hp; simp [refs1, refs0]))
theorem op_par2 {σ σ2 : Type} {R : Option σ → Option σ2 → Prop} {E : Env ρ} {o : Op} {nid : Nat} {eat : Bool} {K : AV → St → Option σ} {K2 : AV → St → Option σ2} (h0 : R none none) (hcl : cls E o = 2) (hcall : isCall o = false) (hlen : h2.length = h.length)
    (hx : ∀ x ∈ o.operands.toList, ev t2 x = ev t x) (hs : ∀ x ∈ o.operands.toList, ∀ id ∈ refs1 (ev t x), lkB h2 id = lkB h id)
    (hK : ∀ v ups, (∀ p ∈ ups, (p.1 = nid ∧ allocs E.clone o = true) ∨ ∃ x ∈ o.operands.toList, p.1 ∈ refs1 (ev t x)) → R (K v { t := t, h := aps ups h }) (K2 v { t := t2, h := aps ups h2 })) :
    R (opK P { t := t, h := h } nid eat o K) (opK P { t := t2, h := h2 } nid eat o K2) := by
  cases o with
  | store ty a v =>
    have e1 := hx a (by simp [Op.operands])
    have e2 := hx v (by simp [Op.operands])
    have s1 := hs a (by simp [Op.operands])
    have s2 := hs v (by simp [Op.operands])
    have ma : ∀ {id : Nat}, id ∈ refs1 (ev t a) → ∃ x ∈ (Op.store ty a v).operands.toList, id ∈ refs1 (ev t x) := fun hi => ⟨a, by simp [Op.operands], hi⟩
    have mv : ∀ {id : Nat}, id ∈ refs1 (ev t v) → ∃ x ∈ (Op.store ty a v).operands.toList, id ∈ refs1 (ev t x) := fun hi => ⟨v, by simp [Op.operands], hi⟩
    simp only [opK, e1, e2]
    cases eat with
    | false =>
      simp only
      exact store_par h0 hlen s1 s2 fun ups hu => hK _ ups fun p hp => .inr ((hu p hp).elim ma mv)
    | true =>
      simp only
      cases hv : ev t v with
      | sub id g lo n =>
        rw [hv] at s2 mv
        have e3 := s2 id (by simp [refs1, refs0])
        simp only [e3]
        split <;> try exact h0
        split <;> try exact h0
        refine store_par h0 (by simp [length_updB, hlen]) (fun j hj => ?_) (fun j hj => ?_) fun ups hu => hK _ ((id, _) :: ups) fun p hp => .inr ?_
        · exact aps_same (ups := [(id, _)]) hlen (s1 j hj)
        · simp only [refs1, refs0, List.mem_singleton] at hj
          subst hj
          exact aps_same (ups := [(_, _)]) hlen e3
        · rcases List.mem_cons.1 hp with rfl | hp
          · exact mv (by simp [refs1, refs0])
          · rcases hu p hp with hu | hu
            · exact ma hu
            · exact mv (by simpa [refs1, refs0] using hu)
      | _ => exact h0
  | mapUpdate ty m i x =>
    have e1 := hx m (by simp [Op.operands])
    have e2 := hx i (by simp [Op.operands])
    have e3 := hx x (by simp [Op.operands])
    have s1 := hs m (by simp [Op.operands])
    have s3 := hs x (by simp [Op.operands])
    obtain ⟨u, f1, f2, f3⟩ := frz_aps (v := ev t x) hlen s3
    simp only [opK, e1, e2, e3]
    unfold mapUpdateK
    rw [snap_same s3]
    split <;> try exact h0
    split <;> try exact h0
    rename_i id hm
    rw [hm] at s1
    rw [s1 id (by simp [refs1, refs0])]
    (repeat' split) <;> first
      | exact h0
      | (rw [f1, f2]
         refine hK _ (u ++ [(id, _)]) (fun p hp => ?_) |> fun q => (by simpa only [aps_append, aps_one] using q)
         rcases List.mem_append.1 hp with hp | hp
         · exact .inr ⟨x, by simp [Op.operands], f3 p hp⟩
         · exact .inr ⟨m, by simp [Op.operands], by simp only [List.mem_singleton] at hp; subst hp; rw [hm]; simp [refs1, refs0]⟩)
  | call c =>
    obtain ⟨callee, args, tys⟩ := c
    cases callee with
    | builtin b =>
      have e := map_ev (l := args.toList) (t := t) (t2 := t2) fun x hm => hx x (by simpa [Op.operands, Call.operands] using hm)
      have hsa : ∀ x ∈ args.toList, ∀ id ∈ refs1 (ev t x), lkB h2 id = lkB h id := fun x hm => hs x (by simpa [Op.operands, Call.operands] using hm)
      have hmem : ∀ x ∈ args.toList, x ∈ (Op.call ⟨.builtin b, args, tys⟩).operands.toList := fun x hm => by simpa [Op.operands, Call.operands] using hm
      generalize hl : args.toList = l at e hsa hmem
      generalize hm : tys.toList = m
      cases b with
      | append =>
        rcases l with _ | ⟨x, _ | ⟨y, _ | ⟨z, l⟩⟩⟩ <;> rcases m with _ | ⟨ty, _ | ⟨ty', _ | ⟨ty'', m⟩⟩⟩ <;> simp only [opK, hl, hm] <;> try exact h0
        simp only [List.map_cons, List.cons.injEq, List.map_nil, and_true] at e
        rw [e.1, e.2]
        have sx := hsa x (by simp)
        have sy := hsa y (by simp)
        have hnew : ∀ v B, R (K v { t := t, h := updB h nid B }) (K2 v { t := t2, h := updB h2 nid B }) := fun v B => hK v [(nid, B)] fun p hp => .inl ⟨by simp only [List.mem_singleton] at hp; subst hp; rfl, rfl⟩
        (repeat' split) <;> first
          | exact h0
          | (unfold appendK
             simp only [snapRow_same sy]
             split <;> try exact h0
             split <;> try exact h0
             split <;> try exact h0
             split <;> try exact h0
             split <;> try exact h0
             · split <;> first | exact h0 | exact hnew _ _
             · rename_i id g hv
               rw [hv] at sx
               rw [sx id (by simp [refs1, refs0])]
               (repeat' split) <;> first
                 | exact h0
                 | exact hK _ [(id, _)] fun p hp => .inr ⟨x, hmem x (by simp), by simp only [List.mem_singleton] at hp; subst hp; rw [hv]; simp [refs1, refs0]⟩)
          | (unfold zerosK
             (repeat' split) <;> first | exact h0 | exact hnew _ _)
      | clear =>
        rcases l with _ | ⟨x, _ | ⟨y, l⟩⟩ <;> rcases m with _ | ⟨ty, _ | ⟨ty', m⟩⟩ <;> simp only [opK, hl, hm] <;> try exact h0
        simp only [List.map_cons, List.cons.injEq, List.map_nil, and_true] at e
        rw [e]
        have sx := hsa x (by simp)
        split <;> try exact h0
        unfold clearK
        split <;> try exact h0
        · exact hK _ [] (by simp)
        · rename_i id g lo n _ hv _
          rw [hv] at sx
          rw [sx id (by simp [refs1, refs0])]
          (repeat' split) <;> first
            | exact h0
            | exact hK _ [(id, _)] fun p hp => .inr ⟨x, hmem x (by simp), by simp only [List.mem_singleton] at hp; subst hp; rw [hv]; simp [refs1, refs0]⟩
      | _ => simp [cls] at hcl
    | value f => cases hcall
    | invoke r m => simp [cls] at hcl
  | _ => simp [cls] at hcl
end
end Go.Am
end

noncomputable section
namespace Go.Am
variable [Ghost]
section
variable {ρ : Type} {P : Program} {h h2 : List Blk} {t t2 : List AV}
theorem argV_same {ty : Ty} {a : AV} (hs : SameAt h h2 a) : argV h2 ty a = argV h ty a := by
  have hsn : snap h2 a = snap h a := snap_same hs.one
  cases ty with
  | ptr u =>
    cases a with
    | box id off =>
      cases off with
      | zero =>
        have h1 : lkB h2 id = lkB h id := hs.one id (by simp [refs1, refs0])
        simp only [argV, h1]
        cases hl : lkB h id with
        | cells cs =>
          simp only
          have : cs.map (snap1 h2) = cs.map (snap1 h) := List.map_congr_left fun c hc => snap1_same fun i hi => hs i (by
            simp only [refs2, List.mem_append, List.mem_flatMap]
            exact .inr ⟨id, by simp [refs1, refs0], by rw [hl]; exact ⟨c, hc, hi⟩⟩)
          rw [this]
        | _ => rfl
      | succ n => rfl
    | eptr t' x off => cases off <;> rfl
    | _ => rfl
  | _ => simp only [argV, hsn]
theorem argsT_same : ∀ {l : List Ty} {ty : Ty} {as : List AV}, (∀ a ∈ as, SameAt h h2 a) → argsT h2 l ty as = argsT h l ty as
  | [], ty, [], _ => rfl
  | [], ty, [a], hs => by simp only [argsT]; exact argV_same (hs a (by simp))
  | [], ty, _ :: _ :: _, _ => rfl
  | u :: l, ty, [], _ => rfl
  | u :: l, ty, a :: as, hs => by
    simp only [argsT]
    rw [argV_same (hs a (by simp)), argsT_same fun b hb => hs b (by simp [hb])]
theorem argsL_same {l : List Ty} {as : List AV} (hs : ∀ a ∈ as, SameAt h h2 a) : argsL h2 l as = argsL h l as := by
  cases l with
  | nil => rfl
  | cons ty l => exact argsT_same hs
theorem drawNf_same : ∀ {o : Op}, (∀ x ∈ o.operands.toList, ev t2 x = ev t x) → (match o with | .buildSlice _ _ ps => ps.toList.all fun p => !anyOwn (ev ({ t := t2, h := h2 } : St).t p.2) | _ => true) = (match o with | .buildSlice _ _ ps => ps.toList.all fun p => !anyOwn (ev ({ t := t, h := h } : St).t p.2) | _ => true) := by
  intro o hx
  cases o <;> try rfl
  rename_i ty n ps
  simp only
  rw [Bool.eq_iff_iff]
  simp only [List.all_eq_true]
  refine forall_congr' fun p => forall_congr' fun hm => ?_
  rw [hx p.2 (by simpa [Op.operands] using ⟨p.1, by simpa using hm⟩)]
theorem drawWf_same {E : Env ρ} {o : Op} (hx : ∀ x ∈ o.operands.toList, ev t2 x = ev t x) (hs : 1 ≤ cls E o → ∀ x ∈ o.operands.toList, SameAt h h2 (ev t x)) :
    drawWf E { t := t2, h := h2 } o = drawWf E { t := t, h := h } o := by
  unfold drawWf
  split
  · rename_i hc
    have hc1 : 1 ≤ cls E o := Nat.le_of_ble_eq_true hc
    have h1 : (o.operands.toList.all fun x => (refs2 h2 (ev t2 x)).all fun id => !isDead (lkB h2 id)) = o.operands.toList.all fun x => (refs2 h (ev t x)).all fun id => !isDead (lkB h id) := by
      rw [Bool.eq_iff_iff]
      simp only [List.all_eq_true]
      refine forall_congr' fun x => forall_congr' fun hm => ?_
      rw [hx x hm, (hs hc1 x hm).refs]
      exact forall_congr' fun id => forall_congr' fun hi => by rw [hs hc1 x hm id hi]
    exact congr (congrArg and h1) (drawNf_same hx)
  · rfl
theorem fpOf_mem {E : Env ρ} {o : Op} (hc : 1 ≤ cls E o) {id : Nat} : id ∈ fpOf E { t := t, h := h } o ↔ ∃ x ∈ o.operands.toList, id ∈ refs2 h (ev t x) := by
  unfold fpOf
  have : Nat.ble 1 (cls E o) = true := Nat.ble_eq_true_of_le hc
  simp only [this, List.mem_flatMap]
theorem fpOf_zero {E : Env ρ} {o : Op} (hc : cls E o = 0) {S : St} : fpOf E S o = [] := by
  unfold fpOf; rw [hc]
def Loc (E : Env ρ) (o : Op) (nid : Nat) (t : List AV) (h : List Blk) (t2 : List AV) (h2 : List Blk) (z z2 : (AV → St → Option ρ) → Option ρ) : Prop :=
  ∃ φ : Option (AV × List (Nat × Blk)), (∀ r, φ = some r → ∀ p ∈ r.2, (p.1 = nid ∧ allocs E.clone o = true) ∨ (cls E o = 2 ∧ p.1 ∈ fpOf E { t := t, h := h } o)) ∧
    (∀ K, z K = φ.bind fun r => K r.1 { t := t, h := aps r.2 h }) ∧ ∀ K, z2 K = φ.bind fun r => K r.1 { t := t2, h := aps r.2 h2 }
theorem Loc.no {E : Env ρ} {o : Op} {nid : Nat} {z z2 : (AV → St → Option ρ) → Option ρ} (h1 : ∀ K, z K = none) (h2' : ∀ K, z2 K = none) : Loc E o nid t h t2 h2 z z2 :=
  ⟨none, by simp, fun K => by rw [h1]; rfl, fun K => by rw [h2']; rfl⟩
theorem clone_par {σ σ2 : Type} {R : Option σ → Option σ2 → Prop} {g nid : Nat} {fz : Bool} {x : AV} {K : AV → St → Option σ} {K2 : AV → St → Option σ2} (h0 : R none none) (hs : ∀ id ∈ refs1 x, lkB h2 id = lkB h id)
    (hK : ∀ v ef, R (K v { t := t, h := ap nid ef h }) (K2 v { t := t2, h := ap nid ef h2 })) : R (cloneK P g fz { t := t, h := h } nid x K) (cloneK P g fz { t := t2, h := h2 } nid x K2) := by
  simp only [cloneK, snapRow_same hs]
  (repeat' split) <;> first | exact h0 | exact hK _ none | exact hK _ (some _)
def efU (nid : Nat) : Option Blk → List (Nat × Blk)
  | none => []
  | some B => [(nid, B)]
theorem ap_aps {nid : Nat} {ef : Option Blk} : ap nid ef h = aps (efU nid ef) h := by cases ef <;> rfl
theorem run_loc {E : Env ρ} {call : List Nat → Bool → Nat → List AV → List Blk → (AV → List Blk → Option ρ) → Option ρ} {fid : Nat} {path : List Nat} {nid : Nat} {o : Oper}
    (hpe : LibEq E call) (hcl : cls E o.op ≤ 2) (hlen : h2.length = h.length) (hx : ∀ x ∈ o.op.operands.toList, ev t2 x = ev t x) (hs : 1 ≤ cls E o.op → ∀ x ∈ o.op.operands.toList, SameAt h h2 (ev t x)) :
    Loc E o.op nid t h t2 h2 (runOp E call fid path true { t := t, h := h } nid o) (runOp E call fid path true { t := t2, h := h2 } nid o) := by
  have hwf := drawWf_same hx hs
  cases hw : drawWf E { t := t, h := h } o.op with
  | false => exact .no (fun K => by simp [runOp, hw]) (fun K => by simp [runOp, hwf, hw])
  | true =>
    rw [hw] at hwf
    have plain : (∀ f args tys, o.op ≠ .call ⟨.value f, args, tys⟩) → Loc E o.op nid t h t2 h2 (runOp E call fid path true { t := t, h := h } nid o) (runOp E call fid path true { t := t2, h := h2 } nid o) := by
      intro hno
      have hr : ∀ S : St, drawWf E S o.op = true → ∀ K, runOp E call fid path true S nid o K = opK E.P S nid (eatOf E true fid o) o.op K := fun S hS K => by
        unfold runOp
        simp only [hS, Bool.not_true, Bool.and_false, Bool.false_and]
      have hcall : isCall o.op = false := by
        cases ho : o.op <;> try rfl
        rename_i c
        obtain ⟨f, args, tys⟩ := c
        cases f <;> first | rfl | exact absurd ho (hno _ _ _)
      have fin : (∃ φ : Option (AV × List (Nat × Blk)), (∀ r, φ = some r → ∀ p ∈ r.2, (p.1 = nid ∧ allocs E.clone o.op = true) ∨ (cls E o.op = 2 ∧ p.1 ∈ fpOf E { t := t, h := h } o.op)) ∧
          opK E.P { t := t, h := h } nid (eatOf E true fid o) o.op (fun v S => some (v, S)) = φ.map (fun r => (r.1, ({ t := t, h := aps r.2 h } : St))) ∧ opK E.P { t := t2, h := h2 } nid (eatOf E true fid o) o.op (fun v S => some (v, S)) = φ.map fun r => (r.1, ({ t := t2, h := aps r.2 h2 } : St))) →
          Loc E o.op nid t h t2 h2 (runOp E call fid path true { t := t, h := h } nid o) (runOp E call fid path true { t := t2, h := h2 } nid o) := by
        rintro ⟨φ, h1, h2', h3⟩
        refine ⟨φ, h1, fun K => ?_, fun K => ?_⟩
        · rw [hr _ hw, opK_nat]; unfold opR; rw [h2']; cases φ <;> rfl
        · rw [hr _ hwf, opK_nat]; unfold opR; rw [h3]; cases φ <;> rfl
      apply fin
      by_cases h2c : cls E o.op = 2
      · refine op_par2 (P := E.P) (E := E) (o := o.op) (nid := nid) (σ := AV × St) (σ2 := AV × St) (K := fun v S => some (v, S)) (K2 := fun v S => some (v, S))
          (R := fun x y => ∃ φ : Option (AV × List (Nat × Blk)), (∀ r, φ = some r → ∀ p ∈ r.2, (p.1 = nid ∧ allocs E.clone o.op = true) ∨ (cls E o.op = 2 ∧ p.1 ∈ fpOf E { t := t, h := h } o.op)) ∧ x = φ.map (fun r => (r.1, ({ t := t, h := aps r.2 h } : St))) ∧ y = φ.map fun r => (r.1, ({ t := t2, h := aps r.2 h2 } : St)))
          ⟨none, by simp, rfl, rfl⟩ h2c hcall hlen hx (fun x hm => (hs (by omega) x hm).one) fun v ups hu => ⟨some (v, ups), fun r hr' p hp => ?_, rfl, rfl⟩
        cases hr'
        rcases hu p hp with hu | ⟨x, hm, hi⟩
        · exact .inl hu
        · exact .inr ⟨h2c, (fpOf_mem (by omega)).2 ⟨x, hm, by simp only [refs2, List.mem_append]; exact .inl hi⟩⟩
      · have hea : eatOf E true fid o = false := by
          unfold eatOf
          cases ho : o.op <;> first | rfl | (exfalso; apply h2c; rw [ho]; rfl)
        rw [hea]
        have hb : ∀ ty n ps, o.op = .buildSlice ty n ps → ps.toList.all (fun p => !anyOwn (ev t p.2)) = true := fun ty n ps ho => by
          have h1 := hw
          unfold drawWf at h1
          rw [ho] at h1
          have hb1 : Nat.ble 1 (cls E (.buildSlice ty n ps)) = true := rfl
          simp only [hb1, Bool.and_eq_true] at h1
          exact h1.2
        refine op_par (P := E.P) (E := E) (o := o.op) (nid := nid) (σ := AV × St) (σ2 := AV × St) (K := fun v S => some (v, S)) (K2 := fun v S => some (v, S))
          (R := fun x y => ∃ φ : Option (AV × List (Nat × Blk)), (∀ r, φ = some r → ∀ p ∈ r.2, (p.1 = nid ∧ allocs E.clone o.op = true) ∨ (cls E o.op = 2 ∧ p.1 ∈ fpOf E { t := t, h := h } o.op)) ∧ x = φ.map (fun r => (r.1, ({ t := t, h := aps r.2 h } : St))) ∧ y = φ.map fun r => (r.1, ({ t := t2, h := aps r.2 h2 } : St)))
          ⟨none, by simp, rfl, rfl⟩ (by omega) hcall hx (fun h1 x hm => (hs (by omega) x hm).one) hb fun v ef hef => ⟨some (v, efU nid ef), fun r hr' p hp => ?_, by rw [ap_aps]; rfl, by rw [ap_aps]; rfl⟩
        cases hr'
        cases ef with
        | none => cases hp
        | some B =>
          simp only [efU, List.mem_singleton] at hp
          subst hp
          exact .inl ⟨rfl, hef rfl⟩
    cases ho : o.op with
    | call c =>
      obtain ⟨f, args, tys⟩ := c
      cases f with
      | value f =>
        cases f with
        | func g =>
          rw [ho] at hx hs hcl
          have hxa : ∀ x ∈ args.toList, ev t2 x = ev t x := fun x hm => hx x (by simp [Op.operands, Call.operands]; exact .inr (by simpa using hm))
          have hmem : ∀ x ∈ args.toList, x ∈ (Op.call ⟨.value (.func g), args, tys⟩).operands.toList := fun x hm => by simp [Op.operands, Call.operands]; exact .inr (by simpa using hm)
          have he := map_ev hxa
          cases hc : E.clone g with
          | true =>
            have hcls : cls E (.call ⟨.value (.func g), args, tys⟩) = 1 := by simp [cls, hc]
            have hr : ∀ (S : St), drawWf E S o.op = true → ∀ K, runOp E call fid path true S nid o K = match args.toList with
                | [x] => cloneK E.P g (E.eat fid (o.dst.getD 0)) S nid (ev S.t x) K
                | _ => none := fun S hS K => by
              unfold runOp
              simp only [hS, Bool.not_true, Bool.and_false]
              rw [ho]
              simp only [ev, hc, isLit, Bool.and_self]
              rfl
            generalize hl : args.toList = l at hr he hxa hmem
            rcases l with _ | ⟨x, _ | ⟨y, l⟩⟩
            · exact .no (fun K => hr _ hw K) (fun K => hr _ hwf K)
            · have hsx := (hs (by omega) x (hmem x (by simp))).one
              have e1 := hxa x (by simp)
              obtain ⟨φ, h1, h2', h3⟩ := clone_par (P := E.P) (g := g) (fz := E.eat fid (o.dst.getD 0)) (nid := nid) (t := t) (t2 := t2) (σ := AV × St) (σ2 := AV × St) (K := fun v S => some (v, S)) (K2 := fun v S => some (v, S))
                (R := fun x y => ∃ φ : Option (AV × List (Nat × Blk)), (∀ r, φ = some r → ∀ p ∈ r.2, p.1 = nid) ∧ x = φ.map (fun r => (r.1, ({ t := t, h := aps r.2 h } : St))) ∧ y = φ.map fun r => (r.1, { t := t2, h := aps r.2 h2 }))
                ⟨none, by simp, rfl, rfl⟩ hsx fun v ef => ⟨some (v, efU nid ef), fun r hr' p hp => by
                  cases hr'
                  cases ef with
                  | none => cases hp
                  | some B => simp only [efU, List.mem_singleton] at hp; rw [hp], by rw [ap_aps]; rfl, by rw [ap_aps]; rfl⟩
              refine ⟨φ, fun r hr' p hp => .inl ⟨h1 r hr' p hp, by simpa [allocs] using hc⟩, fun K => ?_, fun K => ?_⟩
              · rw [hr _ hw]
                simp only
                rw [cloneK_nat, h2']
                cases φ <;> rfl
              · rw [hr _ hwf]
                simp only [e1]
                rw [cloneK_nat, h3]
                cases φ <;> rfl
            · exact .no (fun K => hr _ hw K) (fun K => hr _ hwf K)
          | false =>
            have hr : ∀ (S : St), drawWf E S o.op = true → ∀ K, runOp E call fid path true S nid o K = call path true g (args.toList.map (ev S.t)) S.h fun v h => K v { t := S.t, h := h } := fun S hS K => by
              unfold runOp
              simp only [hS, Bool.not_true, Bool.and_false]
              rw [ho]
              simp only [ev, hc, isLit, Bool.false_and, List.nil_append, List.append_nil]
            rcases hpe with hpe | ⟨hpe, hse, hce⟩
            · exact .no (fun K => by rw [hr _ hw]; exact hpe _ _ _ _ _ _) (fun K => by rw [hr _ hwf]; exact hpe _ _ _ _ _ _)
            cases hp : E.pure g with
            | none =>
              have h1c : 1 ≤ cls E (.call ⟨.value (.func g), args, tys⟩) := by simp only [cls, hc, hp]; cases E.sort g <;> cases E.compact g <;> simp
              have row : ∀ (f : List Blk → AV → (AV → List Blk → Option ρ) → Option ρ), (∀ S K, drawWf E S o.op = true → runOp E call fid path true S nid o K = match args.toList.map (ev S.t) with | [x] => f S.h x fun v h => K v { t := S.t, h := h } | _ => none) → cls E (.call ⟨.value (.func g), args, tys⟩) = 2 →
                  (∀ x, (∀ id ∈ refs1 x, lkB h2 id = lkB h id) → ∃ φ : Option (AV × List (Nat × Blk)), (∀ r, φ = some r → ∀ p ∈ r.2, p.1 ∈ refs1 x) ∧ (∀ K, f h x K = φ.bind fun r => K r.1 (aps r.2 h)) ∧ ∀ K, f h2 x K = φ.bind fun r => K r.1 (aps r.2 h2)) →
                  Loc E (.call ⟨.value (.func g), args, tys⟩) nid t h t2 h2 (runOp E call fid path true { t := t, h := h } nid o) (runOp E call fid path true { t := t2, h := h2 } nid o) := by
                intro f hf h2c hloc
                generalize hl : args.toList = l at hf he hmem
                rcases l with _ | ⟨x, _ | ⟨y, l⟩⟩
                · exact .no (fun K => hf _ K hw) (fun K => hf _ K hwf)
                · obtain ⟨φ, q1, q2, q3⟩ := hloc (ev t x) (hs h1c x (hmem x (by simp))).one
                  refine ⟨φ, fun r hr' p hp => .inr ⟨h2c, (fpOf_mem h1c).2 ⟨x, hmem x (by simp), by simp only [refs2, List.mem_append]; exact .inl (q1 r hr' p hp)⟩⟩, fun K => ?_, fun K => ?_⟩
                  · rw [hf _ K hw]
                    exact q2 _
                  · rw [hf _ K hwf]
                    simp only [he]
                    exact q3 _
                · exact .no (fun K => hf _ K hw) (fun K => hf _ K hwf)
              cases hso : E.sort g with
              | true =>
                refine row sortK (fun S K hS => (hr S hS K).trans (hse g hp hso path true _ S.h _)) (by simp [cls, hc, hp, hso]) fun x hx1 => ?_
                unfold sortK
                cases x with
                | own id g =>
                  have e3 := hx1 id (by simp [refs1, refs0])
                  simp only [e3]
                  cases lkB h id with
                  | row ty g' fz xs =>
                    cases fz <;> simp only
                    · split
                      · split
                        · split
                          · exact ⟨some (_, [(id, _)]), by simp [refs1, refs0], fun K => rfl, fun K => rfl⟩
                          · exact ⟨none, by simp, fun K => rfl, fun K => rfl⟩
                        · exact ⟨none, by simp, fun K => rfl, fun K => rfl⟩
                      · exact ⟨none, by simp, fun K => rfl, fun K => rfl⟩
                    · exact ⟨none, by simp, fun K => rfl, fun K => rfl⟩
                  | _ => exact ⟨none, by simp, fun K => rfl, fun K => rfl⟩
                | nils => exact ⟨some (_, []), by simp, fun K => rfl, fun K => rfl⟩
                | _ => exact ⟨none, by simp, fun K => rfl, fun K => rfl⟩
              | false =>
                cases hco : E.compact g with
                | true =>
                  refine row compactK (fun S K hS => (hr S hS K).trans (hce g hp hso hco path true _ S.h _)) (by simp [cls, hc, hp, hso, hco]) fun x hx1 => ?_
                  unfold compactK
                  cases x with
                  | own id g =>
                    have e3 := hx1 id (by simp [refs1, refs0])
                    simp only [e3]
                    cases lkB h id with
                    | row ty g' fz xs =>
                      cases fz <;> simp only
                      · split
                        · split
                          · split
                            · exact ⟨some (_, [(id, _)]), by simp [refs1, refs0], fun K => rfl, fun K => rfl⟩
                            · exact ⟨none, by simp, fun K => rfl, fun K => rfl⟩
                          · exact ⟨none, by simp, fun K => rfl, fun K => rfl⟩
                        · exact ⟨none, by simp, fun K => rfl, fun K => rfl⟩
                      · exact ⟨none, by simp, fun K => rfl, fun K => rfl⟩
                    | _ => exact ⟨none, by simp, fun K => rfl, fun K => rfl⟩
                  | nils => exact ⟨some (_, []), by simp, fun K => rfl, fun K => rfl⟩
                  | _ => exact ⟨none, by simp, fun K => rfl, fun K => rfl⟩
                | false => simp [cls, hc, hp, hso, hco] at hcl
            | some p =>
              have h1c : 1 ≤ cls E (.call ⟨.value (.func g), args, tys⟩) := by simp only [cls, hc, hp]; cases E.fz g <;> simp
              have hsa : ∀ a ∈ args.toList.map (ev t), SameAt h h2 a := fun a ha => by
                obtain ⟨x, hm, rfl⟩ := List.mem_map.1 ha
                exact hs h1c x (hmem x hm)
              obtain ⟨u, f1, f2, f3⟩ := frzL_aps (cs := (args.toList.map (ev t)).flatMap cellsV) hlen fun c hcm id hi => by
                obtain ⟨a, ha, hca⟩ := List.mem_flatMap.1 hcm
                refine (hsa a ha).one id ?_
                cases a <;> first
                  | (simp only [cellsV, List.mem_singleton] at hca; subst hca; exact hi)
                  | exact List.mem_flatMap.2 ⟨c, hca, hi⟩
              have f3' : ∀ q ∈ u, ∃ x ∈ args.toList, q.1 ∈ refs2 h (ev t x) := fun q hq => by
                obtain ⟨c, hcm, hi⟩ := f3 q hq
                obtain ⟨a, ha, hca⟩ := List.mem_flatMap.1 hcm
                obtain ⟨x, hm, rfl⟩ := List.mem_map.1 ha
                refine ⟨x, hm, ?_⟩
                simp only [refs2, List.mem_append]
                left
                generalize ev t x = a at hca
                cases a <;> first
                  | (simp only [cellsV, List.mem_singleton] at hca; subst hca; exact hi)
                  | exact List.mem_flatMap.2 ⟨c, hca, hi⟩
              have hpk : ∀ (b : Bool) (h' : List Blk), argsL h' p.ts (args.toList.map (ev t)) = argsL h p.ts (args.toList.map (ev t)) → frzL h' ((args.toList.map (ev t)).flatMap cellsV) = aps u h' → ∀ (K : AV → List Blk → Option ρ),
                  pureK b p h' (args.toList.map (ev t)) K = (match argsL h p.ts (args.toList.map (ev t)) with
                  | some x => (p.F x).bind fun y => match plainT (encR p.rs y) with
                    | true => some (encR p.rs y, [])
                    | false => match (args.toList.map (ev t)).all (fun a => !anyOwn a) with
                      | true => some (encR p.rs y, [])
                      | false => match b || !(args.toList.map (ev t)).all noRef with
                        | true => none
                        | false => some (encR p.rs y, u)
                  | none => none).bind fun r => K r.1 (aps r.2 h') := fun b h' ha hf K => by
                unfold pureK bindF
                rw [ha, hf]
                cases argsL h p.ts (args.toList.map (ev t)) with
                | none => rfl
                | some x =>
                  simp only
                  cases p.F x with
                  | none => rfl
                  | some y =>
                    simp only [Option.bind_some]
                    cases plainT (encR p.rs y) with
                    | true => rfl
                    | false => cases (args.toList.map (ev t)).all (fun a => !anyOwn a) with
                      | true => rfl
                      | false => cases b || !(args.toList.map (ev t)).all noRef <;> rfl
              refine ⟨_, ?_, fun K => (hr _ hw K).trans ((hpe g p hp path true _ h _).trans (hpk (true && !E.fz g) h rfl f1 _)), fun K => (hr _ hwf K).trans (by simp only [he]; exact (hpe g p hp path true _ h2 _).trans (hpk (true && !E.fz g) h2 (argsL_same hsa) f2 _))⟩
              intro r hr1 q hq
              have hcase : r.2 = [] ∨ (E.fz g = true ∧ r.2 = u) := by
                cases hA : argsL h p.ts (args.toList.map (ev t)) with
                | none => rw [hA] at hr1; cases hr1
                | some x =>
                  rw [hA] at hr1
                  simp only at hr1
                  cases hF : p.F x with
                  | none => rw [hF] at hr1; cases hr1
                  | some y =>
                    rw [hF] at hr1
                    simp only [Option.bind_some] at hr1
                    split at hr1
                    · cases hr1; exact .inl rfl
                    · split at hr1
                      · cases hr1; exact .inl rfl
                      · split at hr1
                        · cases hr1
                        · rename_i hb
                          cases hr1
                          simp only [Bool.true_and, Bool.or_eq_false_iff, Bool.not_eq_false'] at hb
                          exact .inr ⟨hb.1, rfl⟩
              rcases hcase with hz | ⟨hfz, hz⟩
              · rw [hz] at hq; cases hq
              · rw [hz] at hq
                obtain ⟨x, hm, hi⟩ := f3' q hq
                exact .inr ⟨by simp [cls, hc, hp, hfz], (fpOf_mem h1c).2 ⟨x, hmem x hm, hi⟩⟩
        | _ => rw [ho] at hcl; simp [cls] at hcl
      | _ => exact ho ▸ plain fun _ _ _ hf => by rw [ho] at hf; cases hf
    | _ => exact ho ▸ plain fun _ _ _ hf => by rw [ho] at hf; cases hf
theorem tmps_ev {l : List Operand} (ht : ∀ s ∈ tmpsOf l, lk t2 s = lk t s) : ∀ x ∈ l, ev t2 x = ev t x := by
  induction l with
  | nil => intro x hm; cases hm
  | cons y l ih =>
    intro x hm
    rcases List.mem_cons.1 hm with rfl | hm
    · cases x with
      | tmp i => exact ht i (by simp [tmpsOf])
      | _ => rfl
    · refine ih (fun s hs => ht s ?_) x hm
      cases y <;> simp [tmpsOf, hs]
theorem upd_comm : ∀ (t : List AV) {d d' : Nat} (v v' : AV), d ≠ d' → upd (upd t d v) d' v' = upd (upd t d' v') d v
  | [], _, _, _, _, _ => rfl
  | _ :: _, 0, 0, _, _, h => absurd rfl h
  | _ :: _, 0, _ + 1, _, _, _ => rfl
  | _ :: _, _ + 1, 0, _, _, _ => rfl
  | x :: t, d + 1, d' + 1, v, v', h => by simp only [upd]; rw [upd_comm t v v' (by omega)]
theorem updB_comm : ∀ (t : List Blk) {d d' : Nat} (v v' : Blk), d ≠ d' → updB (updB t d v) d' v' = updB (updB t d' v') d v
  | [], _, _, _, _, _ => rfl
  | _ :: _, 0, 0, _, _, h => absurd rfl h
  | _ :: _, 0, _ + 1, _, _, _ => rfl
  | _ :: _, _ + 1, 0, _, _, _ => rfl
  | x :: t, d + 1, d' + 1, v, v', h => by simp only [updB]; rw [updB_comm t v v' (by omega)]
theorem setDst_comm {da db : Option Nat} (hd : ∀ x, da = some x → db ≠ some x) (va vb : AV) : setDst (setDst t da va) db vb = setDst (setDst t db vb) da va := by
  cases da with
  | none => rfl
  | some x => cases db with
    | none => rfl
    | some y => exact upd_comm t va vb fun h => hd x rfl (by rw [h])
theorem setDst_lk {d : Option Nat} {s : Nat} (hd : d ≠ some s) (v : AV) : lk (setDst t d v) s = lk t s := by
  cases d with
  | none => rfl
  | some x =>
    simp only [setDst, lk_upd]
    rw [if_neg]
    rintro ⟨rfl, _⟩
    exact hd rfl
theorem aps_comm : ∀ {u v : List (Nat × Blk)} {h : List Blk}, (∀ p ∈ u, ∀ q ∈ v, p.1 ≠ q.1) → aps v (aps u h) = aps u (aps v h)
  | [], _, _, _ => rfl
  | p :: u, v, h, hn => by
    show aps v (aps u (updB h p.1 p.2)) = aps u (updB (aps v h) p.1 p.2)
    rw [aps_comm fun q hq => hn q (by simp [hq])]
    congr 1
    have : ∀ (v : List (Nat × Blk)) (h : List Blk), (∀ q ∈ v, p.1 ≠ q.1) → aps v (updB h p.1 p.2) = updB (aps v h) p.1 p.2 := by
      intro v
      induction v with
      | nil => intro h _; rfl
      | cons q v ih =>
        intro h hq
        show aps v (updB (updB h p.1 p.2) q.1 q.2) = updB (aps v (updB h q.1 q.2)) p.1 p.2
        rw [updB_comm _ _ _ (hq q (by simp)), ih _ fun r hr => hq r (by simp [hr])]
    exact this v h (hn p (by simp))
def wants (all : List Oper) (o : Oper) (t : List AV) : Option Bool :=
  match o.guard with
  | none => some true
  | some (j, want) => match lk t (gslot all j) with
    | .bool b => some (b == want)
    | .und => some false
    | _ => none
def fpAt (E : Env ρ) (all : List Oper) (o : Oper) (S : St) : List Nat :=
  match wants all o S.t with
  | some true => fpOf E S o.op
  | _ => []
def stepC (E : Env ρ) (call : List Nat → Bool → Nat → List AV → List Blk → (AV → List Blk → Option ρ) → Option ρ) (fid : Nat) (path : List Nat) (all : List Oper) (bef : List Nat) (acc : List (Nat × List Nat)) (i nid : Nat) (o : Oper) (S : St) (K : List Nat → St → Option ρ) : Option ρ :=
  match wants all o S.t == some true && !chk E all bef acc i (fpOf E S o.op) with
  | true => none
  | false => stepP E call fid path true all i nid o S (K (fpAt E all o S))
theorem opsD_cons {E : Env ρ} {call : List Nat → Bool → Nat → List AV → List Blk → (AV → List Blk → Option ρ) → Option ρ} {fid : Nat} {path : List Nat} {all : List Oper} {bef : List Nat} {o : Oper} {os : List Oper} {i nid : Nat} {acc : List (Nat × List Nat)} {S : St} {K : St → Option ρ} :
    opsD E call fid path all bef (o :: os) i nid acc S K = stepC E call fid path all bef acc i nid o S fun F S' => opsD E call fid path all bef os (i + 1) (bif allocs E.clone o.op then nid + 1 else nid) ((i, F) :: acc) S' K := by
  have hself : ∀ d b, lk S.t d = .bool b → ({ t := upd S.t d (.bool b), h := S.h } : St) = S := fun d b hb => by rw [← hb, upd_self]
  have htself : ∀ d b, lk S.t d = .bool b → upd S.t d (.bool b) = S.t := fun d b hb => by rw [← hb, upd_self]
  simp only [opsD, stepC, stepP, fpAt, wants]
  cases o.guard with
  | none => cases chk E all bef acc i (fpOf E S o.op) <;> rfl
  | some g =>
    obtain ⟨j, want⟩ := g
    simp only
    cases hb : lk S.t (gslot all j) <;> try rfl
    rename_i b
    have h1 := hself _ b hb
    have h2 := htself _ b hb
    cases b <;> cases want <;> simp only [h1, h2] <;> first
      | rfl
      | (cases chk E all bef acc i (fpOf E S o.op) <;> rfl)
theorem fpOf_same {E : Env ρ} {o : Op} (hx : ∀ x ∈ o.operands.toList, ev t2 x = ev t x) (hs : 1 ≤ cls E o → ∀ x ∈ o.operands.toList, SameAt h h2 (ev t x)) : fpOf E { t := t2, h := h2 } o = fpOf E { t := t, h := h } o := by
  unfold fpOf
  split
  · rename_i hc
    have hc1 : 1 ≤ cls E o := Nat.le_of_ble_eq_true hc
    have : ∀ l : List Operand, (∀ x ∈ l, x ∈ o.operands.toList) → (l.flatMap fun x => refs2 h2 (ev t2 x)) = l.flatMap fun x => refs2 h (ev t x) := by
      intro l
      induction l with
      | nil => intro _; rfl
      | cons x l ih =>
        intro hl
        simp only [List.flatMap_cons]
        rw [hx x (hl x (by simp)), (hs hc1 x (hl x (by simp))).refs, ih fun y hy => hl y (by simp [hy])]
    exact this _ fun _ h => h
  · rfl
theorem ops_ev {all : List Oper} {o : Oper} (ht : ∀ s ∈ readsOf all o, lk t2 s = lk t s) : ∀ x ∈ o.op.operands.toList, ev t2 x = ev t x := tmps_ev fun s hm => ht s (by simp only [readsOf, List.mem_append]; exact .inr hm)
theorem wants_same {all : List Oper} {o : Oper} (ht : ∀ s ∈ readsOf all o, lk t2 s = lk t s) : wants all o t2 = wants all o t := by
  unfold wants
  cases hg : o.guard with
  | none => rfl
  | some g =>
    obtain ⟨j, want⟩ := g
    simp only
    rw [ht _ (by simp [readsOf, hg])]
theorem wf_alive {E : Env ρ} {o : Op} (hc : 1 ≤ cls E o) (hw : drawWf E { t := t, h := h } o = true) : ∀ id ∈ fpOf E { t := t, h := h } o, lkB h id ≠ .dead := fun id hi hd => by
  obtain ⟨x, hm, hi⟩ := (fpOf_mem hc).1 hi
  unfold drawWf at hw
  have hb1 : Nat.ble 1 (cls E o) = true := Nat.ble_eq_true_of_le hc
  simp only [hb1, Bool.and_eq_true, List.all_eq_true] at hw
  have := hw.1 x hm id hi
  rw [hd] at this
  cases this
theorem step_loc {E : Env ρ} {call : List Nat → Bool → Nat → List AV → List Blk → (AV → List Blk → Option ρ) → Option ρ} {fid : Nat} {path : List Nat} {all : List Oper} {i nid : Nat} {o : Oper} (r0 : ρ)
    (hpe : LibEq E call) (hcl : cls E o.op ≤ 2) (hlen : h2.length = h.length) (ht : ∀ s ∈ readsOf all o, lk t2 s = lk t s)
    (hs : wants all o t = some true → 1 ≤ cls E o.op → ∀ x ∈ o.op.operands.toList, SameAt h h2 (ev t x)) :
    ∃ φ : Option (AV × List (Nat × Blk)), (∀ r, φ = some r → ∀ p ∈ r.2, (p.1 = nid ∧ allocs E.clone o.op = true) ∨ (cls E o.op = 2 ∧ p.1 ∈ fpAt E all o { t := t, h := h })) ∧
      (∀ r, φ = some r → ∀ id ∈ fpAt E all o { t := t, h := h }, lkB h id ≠ .dead) ∧
      (∀ K, stepP E call fid path true all i nid o { t := t, h := h } K = φ.bind fun r => K { t := setDst t o.dst r.1, h := aps r.2 h }) ∧
      ∀ K, stepP E call fid path true all i nid o { t := t2, h := h2 } K = φ.bind fun r => K { t := setDst t2 o.dst r.1, h := aps r.2 h2 } := by
  have hx := ops_ev (t := t) (t2 := t2) (o := o) ht
  have hwt := wants_same (t := t) (t2 := t2) (o := o) ht
  cases hw : wants all o t with
  | none =>
    rw [hw] at hwt
    have : ∀ (S : St), wants all o S.t = none → ∀ K, stepP E call fid path true all i nid o S K = none := fun S hS K => by
      unfold wants at hS
      unfold stepP
      cases hg : o.guard with
      | none => rw [hg] at hS; cases hS
      | some g =>
        obtain ⟨j, want⟩ := g
        rw [hg] at hS
        simp only at hS ⊢
        cases hb : lk S.t (gslot all j) <;> rw [hb] at hS <;> first | rfl | cases hS
    exact ⟨none, by simp, by simp, fun K => this _ hw K, fun K => this _ hwt K⟩
  | some b =>
    cases b with
    | false =>
      rw [hw] at hwt
      have : ∀ (S : St), wants all o S.t = some false → ∀ K, stepP E call fid path true all i nid o S K = K { t := setDst S.t o.dst .und, h := S.h } := fun S hS K => by
        unfold wants at hS
        unfold stepP
        cases hg : o.guard with
        | none => rw [hg] at hS; cases hS
        | some g =>
          obtain ⟨j, want⟩ := g
          rw [hg] at hS
          simp only at hS ⊢
          cases hb : lk S.t (gslot all j) <;> rw [hb] at hS <;> first | rfl | (cases hS; done) | skip
          simp only [Option.some.injEq] at hS ⊢
          rw [hS]
      refine ⟨some (.und, []), ?_, ?_, fun K => this _ hw K, fun K => this _ hwt K⟩
      · intro r hr p hp
        cases hr
        cases hp
      · intro r hr id hi
        simp only [fpAt, hw] at hi
        cases hi
    | true =>
      rw [hw] at hwt
      have hst : ∀ (S : St), wants all o S.t = some true → ∀ K, stepP E call fid path true all i nid o S K = runOp E call fid (path ++ [i]) true S nid o fun v S => K { t := setDst S.t o.dst v, h := S.h } := fun S hS K => by
        unfold wants at hS
        unfold stepP
        cases hg : o.guard with
        | none => rfl
        | some g =>
          obtain ⟨j, want⟩ := g
          rw [hg] at hS
          simp only at hS ⊢
          cases hb : lk S.t (gslot all j) <;> rw [hb] at hS <;> first | (cases hS; done) | skip
          simp only [Option.some.injEq] at hS ⊢
          rw [hS]
      obtain ⟨φ, h1, h2', h3⟩ := run_loc (fid := fid) (path := path ++ [i]) (nid := nid) hpe hcl hlen hx (hs hw)
      have hfp : fpAt E all o { t := t, h := h } = fpOf E { t := t, h := h } o.op := by simp only [fpAt, hw]
      refine ⟨φ, fun r hr p hp => ?_, fun r hr id hi => ?_, fun K => by rw [hst _ hw, h2'], fun K => by rw [hst _ hwt, h3]⟩
      · rw [hfp]; exact h1 r hr p hp
      · rw [hfp] at hi
        by_cases hc : 1 ≤ cls E o.op
        · refine wf_alive hc ?_ id hi
          cases hwf : drawWf E { t := t, h := h } o.op with
          | true => rfl
          | false =>
            exfalso
            have hk := h2' fun v S => some r0
            rw [hr] at hk
            simp [runOp, hwf] at hk
        · rw [fpOf_zero (by omega)] at hi
          cases hi
theorem disj_spec : ∀ {l m : List Nat}, disj l m = true ↔ ∀ x ∈ l, x ∉ m
  | [], m => by simp [disj]
  | x :: l, m => by
    simp only [disj, Bool.and_eq_true, Bool.not_eq_true', List.any_eq_false, List.mem_cons, forall_eq_or_imp, disj_spec (l := l)]
    refine and_congr_left fun _ => ⟨fun h hm => h x hm (Nat.beq_refl x), fun h y hy he => ?_⟩
    have := Nat.eq_of_beq_eq_true he
    subst this
    exact h hy
structure Apart (E : Env ρ) (all : List Oper) (bef : List Nat) (ia ib : Nat) (a b : Oper) : Prop where
  ha : all[ia]? = some a
  hb : all[ib]? = some b
  a3 : cls E a.op ≤ 2
  b3 : cls E b.op ≤ 2
  rb : ∀ s ∈ readsOf all b, a.dst ≠ some s
  ra : ∀ s ∈ readsOf all a, b.dst ≠ some s
  dd : ∀ x, a.dst = some x → b.dst ≠ some x
  bab : (bef.getD ib 0).testBit ia = false
  bba : (bef.getD ia 0).testBit ib = false
theorem cls_le (E : Env ρ) (o : Op) : cls E o ≤ 3 := by
  unfold cls; (repeat' split) <;> omega
theorem clash_apart {E : Env ρ} {all : List Oper} {bef : List Nat} {ia ib : Nat} {a b : Oper} (hc : clash E all a b = false) (ha : all[ia]? = some a) (hb : all[ib]? = some b) (h1 : (bef.getD ib 0).testBit ia = false) (h2 : (bef.getD ia 0).testBit ib = false) : Apart E all bef ia ib a b := by
  unfold clash at hc
  simp only [Bool.or_eq_false_iff, beq_eq_false_iff_ne] at hc
  obtain ⟨⟨⟨⟨_, h3⟩, h5⟩, h6⟩, h7⟩ := hc
  have qa := cls_le E a.op
  have qb := cls_le E b.op
  refine ⟨ha, hb, by omega, by omega, fun s hs hd => ?_, fun s hs hd => ?_, fun x hx hy => ?_, h1, h2⟩
  · rw [hd] at h5
    simp [meets, hs] at h5
  · rw [hd] at h6
    simp [meets, hs] at h6
  · rw [hx, hy] at h7
    simp at h7
theorem pair_disj {E : Env ρ} {all : List Oper} {bef : List Nat} {j i : Nat} {a b : Oper} {Fj Fi : List Nat} (hp : pairOk E all bef j i Fj Fi = true) (ha : all[j]? = some a) (hb : all[i]? = some b) (h1 : (bef.getD j 0).testBit i = false) (h2 : (bef.getD i 0).testBit j = false)
    (hc : clash2 E a.op b.op = true) : ∀ x ∈ Fj, x ∉ Fi := by
  unfold pairOk at hp
  simp only [ha, hb, hc, h1, h2, Bool.not_true, Bool.false_or] at hp
  exact disj_spec.1 hp
theorem clash2_comm {E : Env ρ} {a b : Op} : clash2 E a b = clash2 E b a := by
  unfold clash2; cases cls E a == 2 <;> cases cls E b == 2 <;> cases Nat.ble 1 (cls E a) <;> cases Nat.ble 1 (cls E b) <;> rfl
theorem pairOk_comm {E : Env ρ} {all : List Oper} {bef : List Nat} {j i : Nat} {Fj Fi : List Nat} (hp : pairOk E all bef j i Fj Fi = true) : pairOk E all bef i j Fi Fj = true := by
  unfold pairOk at hp ⊢
  cases ha : all[j]? with
  | none => rw [ha] at hp; cases hp
  | some a => cases hb : all[i]? with
    | none => rw [ha, hb] at hp; cases hp
    | some b =>
      rw [ha, hb] at hp
      simp only [Bool.or_eq_true, Bool.not_eq_true'] at hp ⊢
      rw [clash2_comm]
      rcases hp with hp | hp | hp | hp
      · exact .inl hp
      · exact .inr (.inr (.inl hp))
      · exact .inr (.inl hp)
      · exact .inr (.inr (.inr (disj_spec.2 fun x hx hy => disj_spec.1 hp x hy hx)))
theorem clash2_iff {E : Env ρ} {a b : Op} : clash2 E a b = true ↔ (cls E a = 2 ∧ 1 ≤ cls E b) ∨ (1 ≤ cls E a ∧ cls E b = 2) := by
  unfold clash2
  simp only [Bool.or_eq_true, Bool.and_eq_true, beq_iff_eq, Nat.ble_eq]
theorem chk_cons {E : Env ρ} {all : List Oper} {bef : List Nat} {acc : List (Nat × List Nat)} {p : Nat × List Nat} {i : Nat} {F : List Nat} : chk E all bef (p :: acc) i F = (pairOk E all bef p.1 i p.2 F && chk E all bef acc i F) := by
  simp [chk]
theorem pairOk_nil {E : Env ρ} {all : List Oper} {bef : List Nat} {j i : Nat} {a b : Oper} {Fj : List Nat} (ha : all[j]? = some a) (hb : all[i]? = some b) : pairOk E all bef j i Fj [] = true := by
  unfold pairOk
  simp only [ha, hb, Bool.or_eq_true]
  exact .inr (.inr (.inr (disj_spec.2 fun x _ => by simp)))
theorem fpAt_same {E : Env ρ} {all : List Oper} {o : Oper} (ht : ∀ s ∈ readsOf all o, lk t2 s = lk t s) (hs : wants all o t = some true → 1 ≤ cls E o.op → ∀ x ∈ o.op.operands.toList, SameAt h h2 (ev t x)) : fpAt E all o { t := t2, h := h2 } = fpAt E all o { t := t, h := h } := by
  unfold fpAt
  simp only [wants_same (t := t) (t2 := t2) ht]
  cases hw : wants all o t with
  | none => rfl
  | some b => cases b with
    | false => rfl
    | true => exact fpOf_same (ops_ev ht) (hs hw)
theorem swap {E : Env ρ} {call : List Nat → Bool → Nat → List AV → List Blk → (AV → List Blk → Option ρ) → Option ρ} {fid : Nat} {path : List Nat} {all : List Oper} {bef : List Nat} {acc : List (Nat × List Nat)} {ia na ib nb : Nat} {a b : Oper} {K : List Nat → List Nat → St → Option ρ} {r : ρ}
    (hpe : LibEq E call) (hc : Apart E all bef ia ib a b) (hbd : allocs E.clone b.op = true → lkB h nb = .dead) (hn : allocs E.clone a.op = true → allocs E.clone b.op = true → na ≠ nb)
    (hfar1 : allocs E.clone a.op = true → ∀ x ∈ b.op.operands.toList, na ∉ refs1 (ev t x))
    (hfar : 1 ≤ cls E b.op → allocs E.clone a.op = true → (∀ p ∈ acc, ∀ c, all[p.1]? = some c → clash2 E c.op b.op = true → (bef.getD ib 0).testBit p.1 = false → (bef.getD p.1 0).testBit ib = false → ∀ x ∈ b.op.operands.toList, ∀ id ∈ refs1 (ev t x), id ∉ p.2) → ∀ x ∈ b.op.operands.toList, na ∉ refs2 h (ev t x))
    (e : stepC E call fid path all bef acc ia na a { t := t, h := h } (fun Fa S => stepC E call fid path all bef ((ia, Fa) :: acc) ib nb b S (K Fa)) = some r) :
    stepC E call fid path all bef acc ib nb b { t := t, h := h } (fun Fb S => stepC E call fid path all bef ((ib, Fb) :: acc) ia na a S fun Fa => K Fa Fb) = some r := by
  -- what a does
  obtain ⟨φa, a0, a1, a2, _⟩ := step_loc (t := t) (t2 := t) (h := h) (h2 := h) (call := call) (fid := fid) (path := path) (i := ia) (nid := na) (all := all) r hpe hc.a3 rfl (fun _ _ => rfl) (fun _ _ _ _ _ _ => rfl)
  unfold stepC at e
  split at e <;> try (cases e; done)
  rename_i hcha
  rw [a2] at e
  obtain ⟨⟨va, ea⟩, q1, q2⟩ := bindS e
  simp only at q2
  split at q2 <;> try (cases q2; done)
  rename_i hchb
  have hal1 := a1 _ q1
  have hea := a0 _ q1
  simp only at hea
  -- b looks at the same
  have htb : ∀ s ∈ readsOf all b, lk (setDst t a.dst va) s = lk t s := fun s hs => setDst_lk (hc.rb s hs) _
  have htb' : ∀ s ∈ readsOf all b, lk t s = lk (setDst t a.dst va) s := fun s hs => (htb s hs).symm
  have hxb := ops_ev htb
  have hwb : wants all b (setDst t a.dst va) = wants all b t := wants_same htb
  have hne1 : 1 ≤ cls E b.op → wants all b t = some true → chk E all bef ((ia, fpAt E all a { t := t, h := h }) :: acc) ib (fpOf E { t := setDst t a.dst va, h := aps ea h } b.op) = true := fun _ hw => by
    rw [hwb, hw] at hchb
    simpa using hchb
  have hone : wants all b t = some true → 1 ≤ cls E b.op → ∀ x ∈ b.op.operands.toList, ∀ id ∈ refs1 (ev t x), lkB (aps ea h) id = lkB h id := fun hw h1 x hx id hi => by
    refine aps_ne fun p hp hid => ?_
    rcases hea p hp with ⟨h2, h3⟩ | ⟨h2, h3⟩
    · exact hfar1 h3 x hx (by rw [← h2, hid]; exact hi)
    · have hk := hne1 h1 hw
      rw [chk_cons, Bool.and_eq_true] at hk
      refine pair_disj hk.1 hc.ha hc.hb hc.bba hc.bab (clash2_iff.2 (.inl ⟨h2, h1⟩)) p.1 h3 ?_
      rw [hid]
      refine (fpOf_mem h1).2 ⟨x, hx, ?_⟩
      rw [hxb x hx]
      simp only [refs2, List.mem_append]
      exact .inl hi
  have hrefs : wants all b t = some true → 1 ≤ cls E b.op → ∀ x ∈ b.op.operands.toList, refs2 (aps ea h) (ev t x) = refs2 h (ev t x) := fun hw h1 x hx => by
    have : ∀ (l : List Nat), (∀ id ∈ l, lkB (aps ea h) id = lkB h id) → (l.flatMap fun id => (cellsB (lkB (aps ea h) id)).flatMap refs0) = l.flatMap fun id => (cellsB (lkB h id)).flatMap refs0 := by
      intro l
      induction l with
      | nil => intro _; rfl
      | cons y l ih => intro hl; simp only [List.flatMap_cons]; rw [hl y (by simp), ih fun id hi => hl id (by simp [hi])]
    simp only [refs2]
    rw [this _ (hone hw h1 x hx)]
  have hfar2 : wants all b t = some true → 1 ≤ cls E b.op → allocs E.clone a.op = true → ∀ x ∈ b.op.operands.toList, na ∉ refs2 h (ev t x) := fun hw h1 h2 => hfar h1 h2 fun p hp c hc1 hc2 hb1 hb2 x hx id hi hid => by
    have hk := hne1 h1 hw
    rw [chk_cons, Bool.and_eq_true] at hk
    have hk2 := List.all_eq_true.1 hk.2 p hp
    refine pair_disj hk2 hc1 hc.hb hb2 hb1 hc2 id hid ((fpOf_mem h1).2 ⟨x, hx, ?_⟩)
    rw [hxb x hx]
    simp only [refs2, List.mem_append]
    exact .inl hi
  have hsame : wants all b t = some true → 1 ≤ cls E b.op → ∀ x ∈ b.op.operands.toList, SameAt h (aps ea h) (ev t x) := fun hw h1 x hx id hi => by
    refine aps_ne fun p hp hid => ?_
    rcases hea p hp with ⟨h2, h3⟩ | ⟨h2, h3⟩
    · exact hfar2 hw h1 h3 x hx (by rw [← h2, hid]; exact hi)
    · have hk := hne1 h1 hw
      rw [chk_cons, Bool.and_eq_true] at hk
      refine pair_disj hk.1 hc.ha hc.hb hc.bba hc.bab (clash2_iff.2 (.inl ⟨h2, h1⟩)) p.1 h3 ?_
      rw [hid]
      refine (fpOf_mem h1).2 ⟨x, hx, ?_⟩
      rw [hxb x hx, hrefs hw h1 x hx]
      exact hi
  -- what b does
  obtain ⟨φb, b0, b1, b2, b3⟩ := step_loc (t := t) (t2 := setDst t a.dst va) (h := h) (h2 := aps ea h) (call := call) (fid := fid) (path := path) (i := ib) (nid := nb) (all := all) r hpe hc.b3 (length_aps _ _) htb hsame
  have hfb : fpAt E all b { t := setDst t a.dst va, h := aps ea h } = fpAt E all b { t := t, h := h } := fpAt_same htb hsame
  rw [b3] at q2
  obtain ⟨⟨vb, eb⟩, q3, q4⟩ := bindS q2
  simp only at q4
  rw [hfb] at q4
  have heb := b0 _ q3
  simp only at heb
  have hfo : wants all b t = some true → fpOf E { t := setDst t a.dst va, h := aps ea h } b.op = fpOf E { t := t, h := h } b.op := fun hw => fpOf_same hxb (hsame hw)
  -- a looks at the same
  have hta : ∀ s ∈ readsOf all a, lk (setDst t b.dst vb) s = lk t s := fun s hs => setDst_lk (hc.ra s hs) _
  have hdisj : clash2 E a.op b.op = true → ∀ id ∈ fpAt E all a { t := t, h := h }, id ∉ fpAt E all b { t := t, h := h } := fun hcl id hi hj => by
    unfold fpAt at hj
    simp only at hj
    split at hj
    · rename_i hw
      have h1 : 1 ≤ cls E b.op := by rcases clash2_iff.1 hcl with h | h <;> omega
      have hk := hne1 h1 hw
      rw [chk_cons, Bool.and_eq_true, hfo hw] at hk
      exact pair_disj hk.1 hc.ha hc.hb hc.bba hc.bab hcl id hi hj
    · cases hj
  have hsamea : wants all a t = some true → 1 ≤ cls E a.op → ∀ x ∈ a.op.operands.toList, SameAt h (aps eb h) (ev t x) := fun hw h1 x hx id hi => by
    have hidF : id ∈ fpAt E all a { t := t, h := h } := by
      unfold fpAt
      simp only [hw]
      exact (fpOf_mem h1).2 ⟨x, hx, hi⟩
    refine aps_ne fun p hp hid => ?_
    rcases heb p hp with ⟨h2, h3⟩ | ⟨h2, h3⟩
    · exact hal1 id hidF (by rw [← hid, h2]; exact hbd h3)
    · exact hdisj (clash2_iff.2 (.inr ⟨h1, h2⟩)) id hidF (hid ▸ h3)
  obtain ⟨φa', a0', a1', a2', a3'⟩ := step_loc (t := t) (t2 := setDst t b.dst vb) (h := h) (h2 := aps eb h) (call := call) (fid := fid) (path := path) (i := ia) (nid := na) (all := all) r hpe hc.a3 (length_aps _ _) hta hsamea
  have hfa : fpAt E all a { t := setDst t b.dst vb, h := aps eb h } = fpAt E all a { t := t, h := h } := fpAt_same hta hsamea
  have h3 : stepP E call fid path true all ia na a { t := t, h := h } (fun S => K (fpAt E all a { t := t, h := h }) (fpAt E all b { t := t, h := h }) { t := setDst S.t b.dst vb, h := aps eb S.h }) = some r := by rw [a2, q1]; exact q4
  rw [a2'] at h3
  obtain ⟨⟨va', ea'⟩, q5, q6⟩ := bindS h3
  simp only at q6
  have hea' := a0' _ q5
  simp only at hea'
  have hcomm : aps eb (aps ea' h) = aps ea' (aps eb h) := aps_comm fun p hp q hq hpq => by
    rcases hea' p hp with ⟨h2, h3⟩ | ⟨h2, h3⟩ <;> rcases heb q hq with ⟨h4, h5⟩ | ⟨h4, h5⟩
    · exact hn h3 h5 (by rw [← h2, ← h4]; exact hpq)
    · -- b would write a's new block
      have hw : wants all b t = some true := by
        unfold fpAt at h5
        simp only at h5
        split at h5
        · assumption
        · cases h5
      have h5' : q.1 ∈ fpOf E { t := t, h := h } b.op := by
        unfold fpAt at h5
        simp only [hw] at h5
        exact h5
      obtain ⟨x, hx, hi⟩ := (fpOf_mem (by omega)).1 h5'
      exact hfar2 hw (by omega) h3 x hx (by rw [← h2, hpq]; exact hi)
    · exact hal1 p.1 h3 (by rw [hpq, h4]; exact hbd h5)
    · exact hdisj (clash2_iff.2 (.inl ⟨h2, by omega⟩)) p.1 h3 (by rw [hpq]; exact h5)
  rw [setDst_comm hc.dd, hcomm] at q6
  -- the checks
  have chb : (wants all b t == some true && !chk E all bef acc ib (fpOf E { t := t, h := h } b.op)) = false := by
    cases hw : wants all b t == some true with
    | false => rfl
    | true =>
      have hw' : wants all b t = some true := by simpa using hw
      rw [hwb, hw] at hchb
      simp only [Bool.true_and, Bool.not_eq_false'] at hchb ⊢
      rw [chk_cons, Bool.and_eq_true, hfo hw'] at hchb
      exact hchb.2
  have cha : (wants all a (setDst t b.dst vb) == some true && !chk E all bef ((ib, fpAt E all b { t := t, h := h }) :: acc) ia (fpOf E { t := setDst t b.dst vb, h := aps eb h } a.op)) = false := by
    rw [wants_same hta]
    cases hw : wants all a t == some true with
    | false => rfl
    | true =>
      have hw' : wants all a t = some true := by simpa using hw
      rw [hw] at hcha
      simp only [Bool.true_and, Bool.not_eq_false'] at hcha ⊢
      rw [fpOf_same (ops_ev hta) (hsamea hw'), chk_cons, Bool.and_eq_true]
      refine ⟨pairOk_comm ?_, hcha⟩
      have hfa0 : fpAt E all a { t := t, h := h } = fpOf E { t := t, h := h } a.op := by simp only [fpAt, hw']
      cases hwb' : wants all b t with
      | some wb => cases wb with
        | true =>
          rw [hwb, hwb'] at hchb
          simp only [beq_self_eq_true, Bool.true_and, Bool.not_eq_false'] at hchb
          rw [chk_cons, Bool.and_eq_true, hfo hwb', hfa0] at hchb
          simp only [fpAt, hwb']
          exact hchb.1
        | false => simp only [fpAt, hwb']; exact pairOk_nil hc.ha hc.hb
      | none => simp only [fpAt, hwb']; exact pairOk_nil hc.ha hc.hb
  unfold stepC
  simp only [chb]
  rw [b2, q3]
  simp only [Option.bind_some, cha]
  rw [a3', q5]
  simp only [Option.bind_some]
  rw [hfa]
  exact q6
abbrev Item := Nat × Nat × Oper
def items (clone : Nat → Bool) : List Oper → Nat → Nat → List Item
  | [], _, _ => []
  | o :: os, i, nid => (i, nid, o) :: items clone os (i + 1) (bif allocs clone o.op then nid + 1 else nid)
def runD (E : Env ρ) (call : List Nat → Bool → Nat → List AV → List Blk → (AV → List Blk → Option ρ) → Option ρ) (fid : Nat) (path : List Nat) (all : List Oper) (bef : List Nat) : List Item → List (Nat × List Nat) → St → (St → Option ρ) → Option ρ
  | [], _, S, K => K S
  | x :: l, acc, S, K => stepC E call fid path all bef acc x.1 x.2.1 x.2.2 S fun F S => runD E call fid path all bef l ((x.1, F) :: acc) S K
theorem opsD_runD {E : Env ρ} {call : List Nat → Bool → Nat → List AV → List Blk → (AV → List Blk → Option ρ) → Option ρ} {fid : Nat} {path : List Nat} {all : List Oper} {bef : List Nat} : ∀ (os : List Oper) (i nid : Nat) (acc : List (Nat × List Nat)) (S : St) (K : St → Option ρ),
    opsD E call fid path all bef os i nid acc S K = runD E call fid path all bef (items E.clone os i nid) acc S K
  | [], _, _, _, _, _ => rfl
  | o :: os, i, nid, acc, S, K => by
    rw [opsD_cons]
    simp only [items, runD]
    congr 1
    funext F S'
    exact opsD_runD os _ _ _ S' K
theorem chk_perm {E : Env ρ} {all : List Oper} {bef : List Nat} {acc acc' : List (Nat × List Nat)} {i : Nat} {F : List Nat} (h : ∀ p, p ∈ acc ↔ p ∈ acc') : chk E all bef acc i F = chk E all bef acc' i F := by
  rw [Bool.eq_iff_iff]
  simp only [chk, List.all_eq_true]
  exact forall_congr' fun p => by rw [h p]
theorem runD_perm {E : Env ρ} {call : List Nat → Bool → Nat → List AV → List Blk → (AV → List Blk → Option ρ) → Option ρ} {fid : Nat} {path : List Nat} {all : List Oper} {bef : List Nat} {K : St → Option ρ} : ∀ (l : List Item) {acc acc' : List (Nat × List Nat)} (S : St), (∀ p, p ∈ acc ↔ p ∈ acc') →
    runD E call fid path all bef l acc S K = runD E call fid path all bef l acc' S K
  | [], _, _, _, _ => rfl
  | x :: l, acc, acc', S, h => by
    simp only [runD, stepC]
    rw [chk_perm h]
    split
    · rfl
    · congr 1
      funext S'
      exact runD_perm l S' fun p => by simp [h p]
theorem bubble {E : Env ρ} {call : List Nat → Bool → Nat → List AV → List Blk → (AV → List Blk → Option ρ) → Option ρ} {fid : Nat} {path : List Nat} {all : List Oper} {bef : List Nat} {b : Item} {rest : List Item} {K : St → Option ρ} {r : ρ} {h0 : List Blk} {t0 : List AV}
    (hpe : LibEq E call) :
    ∀ (as : List Item) (acc : List (Nat × List Nat)) (t : List AV) (h : List Blk), (∀ a ∈ as, Apart E all bef a.1 b.1 a.2.2 b.2.2) → (∀ s ∈ readsOf all b.2.2, lk t s = lk t0 s) → (allocs E.clone b.2.2.op = true → lkB h b.2.1 = .dead) →
      (∀ a ∈ as, allocs E.clone a.2.2.op = true → allocs E.clone b.2.2.op = true → a.2.1 ≠ b.2.1) → (∀ a ∈ as, allocs E.clone a.2.2.op = true → ∀ x ∈ b.2.2.op.operands.toList, a.2.1 ∉ refs2 h0 (ev t0 x)) →
      (1 ≤ cls E b.2.2.op → ∀ x ∈ b.2.2.op.operands.toList, ∀ id ∈ refs1 (ev t0 x), lkB h id = lkB h0 id ∨ ∃ p ∈ acc, (∃ c, all[p.1]? = some c ∧ clash2 E c.op b.2.2.op = true ∧ (bef.getD b.1 0).testBit p.1 = false ∧ (bef.getD p.1 0).testBit b.1 = false) ∧ id ∈ p.2) →
      runD E call fid path all bef (as ++ b :: rest) acc { t := t, h := h } K = some r → runD E call fid path all bef (b :: (as ++ rest)) acc { t := t, h := h } K = some r
  | [], acc, t, h, _, _, _, _, _, _, e => e
  | a :: as, acc, t, h, hap, ht, hbd, hn, hfar, hinv, e => by
    have hA := hap a (by simp)
    have hx0 : ∀ x ∈ b.2.2.op.operands.toList, ev t x = ev t0 x := ops_ev ht
    have hf1 : allocs E.clone a.2.2.op = true → ∀ x ∈ b.2.2.op.operands.toList, a.2.1 ∉ refs1 (ev t x) := fun hal x hx hi => hfar a (by simp) hal x hx (by
      rw [hx0 x hx] at hi
      simp only [refs2, List.mem_append]
      exact .inl hi)
    simp only [List.cons_append, runD] at e ⊢
    have fin := swap (K := fun Fa Fb S => runD E call fid path all bef (as ++ rest) ((b.1, Fb) :: (a.1, Fa) :: acc) S K) (r := r) (t := t) (h := h) (acc := acc) (ia := a.1) (na := a.2.1) (ib := b.1) (nb := b.2.1) (a := a.2.2) (b := b.2.2) (fid := fid) (path := path) hpe hA hbd (hn a (by simp)) hf1
      (fun h1 hal hno x hx => by
        rw [hx0 x hx]
        have hcells : ∀ id ∈ refs1 (ev t0 x), lkB h id = lkB h0 id := fun id hi => (hinv h1 x hx id hi).resolve_right fun ⟨p, hp, ⟨c, c1, c2, c3, c4⟩, hid⟩ => hno p hp c c1 c2 c3 c4 x hx id (by rw [hx0 x hx]; exact hi) hid
        have : refs2 h (ev t0 x) = refs2 h0 (ev t0 x) := by
          have key : ∀ (l : List Nat), (∀ id ∈ l, lkB h id = lkB h0 id) → (l.flatMap fun id => (cellsB (lkB h id)).flatMap refs0) = l.flatMap fun id => (cellsB (lkB h0 id)).flatMap refs0 := by
            intro l
            induction l with
            | nil => intro _; rfl
            | cons y l ih => intro hl; simp only [List.flatMap_cons]; rw [hl y (by simp), ih fun id hi => hl id (by simp [hi])]
          simp only [refs2]
          rw [key _ hcells]
        rw [this]
        exact hfar a (by simp) hal x hx) ?_
    · have hperm : ∀ (Fa Fb : List Nat) (S : St), runD E call fid path all bef (as ++ rest) ((b.1, Fb) :: (a.1, Fa) :: acc) S K = runD E call fid path all bef (as ++ rest) ((a.1, Fa) :: (b.1, Fb) :: acc) S K := fun Fa Fb S => runD_perm _ S fun p => by
        simp only [List.mem_cons]
        constructor <;> rintro (h | h | h) <;> simp [h]
      simp only [hperm] at fin
      exact fin
    · -- behind a
      obtain ⟨φa, a0, a1, a2, _⟩ := step_loc (t := t) (t2 := t) (h := h) (h2 := h) (call := call) (fid := fid) (path := path) (i := a.1) (nid := a.2.1) (all := all) r hpe hA.a3 rfl (fun _ _ => rfl) (fun _ _ _ _ _ _ => rfl)
      unfold stepC at e ⊢
      split at e <;> try (cases e; done)
      rename_i hcha
      simp only [hcha]
      rw [a2] at e ⊢
      obtain ⟨⟨va, ea⟩, q1, q2⟩ := bindS e
      rw [q1]
      simp only [Option.bind_some]
      have hal1 := a1 _ q1
      have hea := a0 _ q1
      simp only at hea q2
      refine bubble hpe as _ _ _ (fun c hc => hap c (by simp [hc])) (fun s hs => (setDst_lk (hA.rb s hs) _).trans (ht s hs)) (fun hal => ?_) (fun c hc => hn c (by simp [hc])) (fun c hc => hfar c (by simp [hc])) (fun h1 x hx id hi => ?_) q2
      · refine (aps_ne fun p hp hid => ?_).trans (hbd hal)
        rcases hea p hp with ⟨h2, h3⟩ | ⟨h2, h3⟩
        · exact hn a (by simp) h3 hal (h2.symm.trans hid)
        · exact hal1 p.1 h3 (by rw [hid]; exact hbd hal)
      · by_cases hin : ∃ p ∈ ea, p.1 = id
        · obtain ⟨p, hp, hid⟩ := hin
          rcases hea p hp with ⟨h2, h3⟩ | ⟨h2, h3⟩
          · exfalso
            exact hf1 h3 x hx (by rw [hx0 x hx, ← h2, hid]; exact hi)
          · exact .inr ⟨(a.1, _), List.mem_cons_self .., ⟨a.2.2, hA.ha, clash2_iff.2 (.inl ⟨h2, h1⟩), hA.bab, hA.bba⟩, hid ▸ h3⟩
        · have hne : lkB (aps ea h) id = lkB h id := aps_ne fun p hp hid => hin ⟨p, hp, hid⟩
          rw [hne]
          rcases hinv h1 x hx id hi with h2 | ⟨p, hp, h2⟩
          · exact .inl h2
          · exact .inr ⟨p, by simp [hp], h2⟩
section
variable {ν : Nat → Value} {w : World}
theorem VR0.refs {a : AV} {v : Value} (hv : VR0 ν h w a v) : ∀ id ∈ refs0 a, lkB h id ≠ .dead := by
  intro id hi hd
  cases a <;> simp only [refs0, List.mem_singleton, List.not_mem_nil] at hi
  · subst hi; obtain ⟨_, t, g', fz, xs, hl, _⟩ := hv; rw [hd] at hl; cases hl
  · subst hi; obtain ⟨_, t, g', fz, xs, hl, _⟩ := hv; rw [hd] at hl; cases hl
  · subst hi; obtain ⟨_, t, g', fz, hl, _⟩ := hv; rw [hd] at hl; cases hl
  · subst hi; obtain ⟨_, _, hl, _⟩ := hv; rw [hd] at hl; cases hl
  · subst hi; obtain ⟨_, t, g', fz, xs, hl, _⟩ := hv; rw [hd] at hl; cases hl
theorem VR1.refs {a : AV} {v : Value} (hv : VR1 ν h w a v) : ∀ id ∈ refs0 a, lkB h id ≠ .dead := by
  cases hf : a.isFn with
  | true => cases a <;> first | (cases hf; done) | (intro id hi; cases hi)
  | false => rw [VR1_eq hf] at hv; exact hv.refs
theorem All2.left_mem {α β : Type} {R : α → β → Prop} : ∀ {l : List α} {m : List β}, All2 R l m → ∀ a ∈ l, ∃ b ∈ m, R a b
  | [], _, _, a, ha => by cases ha
  | x :: l, y :: m, h, a, ha => by
    rcases List.mem_cons.1 ha with rfl | ha
    · exact ⟨y, by simp, h.1⟩
    · obtain ⟨b, hb, hr⟩ := All2.left_mem h.2 a ha
      exact ⟨b, by simp [hb], hr⟩
  | _ :: _, [], h, _, _ => h.elim
theorem VR.refs1 {a : AV} {v : Value} (hv : VR ν h w a v) : ∀ id ∈ Go.Am.refs1 a, lkB h id ≠ .dead := by
  cases hag : a.isAgg with
  | true =>
    cases a <;> try cases hag
    obtain ⟨us, _, h2⟩ := hv
    intro id hi
    simp only [Go.Am.refs1, List.mem_flatMap] at hi
    obtain ⟨c, hc, hi⟩ := hi
    obtain ⟨u, _, hu⟩ := h2.left_mem c hc
    exact hu.1.refs id hi
  | false =>
    cases htu : a.isTup with
    | true => cases a <;> first | (cases htu; done) | (intro id hi; cases hi)
    | false =>
      have h1 := hv.one hag htu
      have h2 := h1.refs
      cases a <;> first | exact h2 | (cases hag; done)
theorem VR.refs2 (H : HR ν h w) {a : AV} {v : Value} (hv : VR ν h w a v) : ∀ id ∈ Go.Am.refs2 h a, lkB h id ≠ .dead := by
  intro id hi
  simp only [Go.Am.refs2, List.mem_append, List.mem_flatMap] at hi
  rcases hi with hi | ⟨j, hj, c, hc, hi⟩
  · exact hv.refs1 id hi
  · have hB := H.blk j
    cases hl : lkB h j with
    | cells cs =>
      rw [hl] at hB hc
      obtain ⟨b, arr, e, _, _, h3⟩ := hB
      obtain ⟨u, _, hu⟩ := h3.left_mem c hc
      exact hu.1.refs id hi
    | _ => rw [hl] at hc; cases hc
end
end
end Go.Am
end

noncomputable section
namespace Go.Am
variable [Ghost]
section
variable {ρ : Type} {ν : Nat → Value} {h : List Blk} {w : World}
def befOf (acc : List Nat) (o : Oper) : Nat := o.after.toList.foldl (fun s e => if Region.binds .any e then s ||| 2 ^ e.on ||| acc.getD e.on 0 else s) 0
theorem beforeL_ex : ∀ (os : List Oper) (acc : List Nat), ∃ l, beforeL os acc = acc ++ l ∧ ∀ (k : Nat) (o : Oper), os[k]? = some o → (acc ++ l).getD (acc.length + k) 0 = befOf ((acc ++ l).take (acc.length + k)) o
  | [], acc => ⟨[], by simp [beforeL], by simp⟩
  | o :: os, acc => by
    obtain ⟨l, h1, h2⟩ := beforeL_ex os (acc ++ [befOf acc o])
    refine ⟨befOf acc o :: l, ?_, ?_⟩
    · simp only [beforeL]
      show beforeL os (acc ++ [befOf acc o]) = _
      rw [h1]; simp
    · intro k o' hk
      cases k with
      | zero =>
        simp only [List.getElem?_cons_zero, Option.some.injEq] at hk
        subst hk
        simp [List.getD]
      | succ k =>
        have := h2 k o' (by simpa using hk)
        simp only [List.append_assoc, List.singleton_append, List.length_append, List.length_singleton] at this
        rw [show acc.length + (k + 1) = acc.length + 1 + k by omega]
        exact this
theorem bef_get {os : List Oper} {k : Nat} {o : Oper} (hk : os[k]? = some o) : (beforeL os []).getD k 0 = befOf ((beforeL os []).take k) o := by
  obtain ⟨l, h1, h2⟩ := beforeL_ex os []
  rw [h1]
  simpa using h2 k o hk
theorem fold_bit {acc : List Nat} {i : Nat} : ∀ (es : List Edge) (s : Nat), (es.foldl (fun s e => if Region.binds .any e then s ||| 2 ^ e.on ||| acc.getD e.on 0 else s) s).testBit i = true →
    s.testBit i = true ∨ ∃ e ∈ es, Region.binds .any e = true ∧ (i = e.on ∨ (acc.getD e.on 0).testBit i = true)
  | [], s, h => .inl h
  | e :: es, s, h => by
    simp only [List.foldl_cons] at h
    rcases fold_bit es _ h with h1 | ⟨e', hm, h1⟩
    · split at h1
      · rename_i hb
        simp only [Nat.testBit_or, Bool.or_eq_true, Nat.testBit_two_pow, decide_eq_true_eq] at h1
        rcases h1 with (h1 | h1) | h1
        · exact .inl h1
        · exact .inr ⟨e, by simp, hb, .inl h1.symm⟩
        · exact .inr ⟨e, by simp, hb, .inr h1⟩
      · exact .inl h1
    · exact .inr ⟨e', by simp [hm], h1⟩
theorem drawOkFrom_spec {E : Env ρ} {all : List Oper} {bef : List Nat} : ∀ {bs : List Oper} {j0 : Nat}, drawOkFrom E all bef bs j0 = true → ∀ (k : Nat) (b : Oper), bs[k]? = some b → ∀ (i : Nat) (a : Oper), i < j0 + k → all[i]? = some a → clash E all a b = false ∨ (bef.getD (j0 + k) 0).testBit i = true
  | [], _, _, k, b, hk, _, _, _, _ => by simp at hk
  | x :: bs, j0, h, k, b, hk, i, a, hi, ha => by
    simp only [drawOkFrom, Bool.and_eq_true, List.all_eq_true, List.mem_range] at h
    cases k with
    | zero =>
      simp only [List.getElem?_cons_zero, Option.some.injEq] at hk
      subst hk
      have := h.1 i (by omega)
      rw [ha] at this
      simp only [Bool.or_eq_true, Bool.not_eq_true'] at this
      simpa using this
    | succ k =>
      have := drawOkFrom_spec h.2 k b (by simpa using hk) i a (by omega) ha
      rwa [show j0 + 1 + k = j0 + (k + 1) by omega] at this
theorem backOk_spec : ∀ {os : List Oper} {j : Nat}, backOk os j = true → ∀ (k : Nat) (o : Oper), os[k]? = some o → ∀ e ∈ o.after, Region.binds .any e = true → e.on < j + k
  | [], _, _, k, o, hk, _, _, _ => by simp at hk
  | x :: os, j, h, k, o, hk, e, he, hb => by
    simp only [backOk, Bool.and_eq_true, List.all_eq_true] at h
    cases k with
    | zero =>
      simp only [List.getElem?_cons_zero, Option.some.injEq] at hk
      subst hk
      have := h.1 e (by simpa using he)
      simp only [hb, Bool.not_true, Bool.false_or, decide_eq_true_eq] at this
      omega
    | succ k =>
      have := backOk_spec h.2 k o (by simpa using hk) e he hb
      omega
theorem bef_lt {os : List Oper} (hb : backOk os 0 = true) : ∀ (j i : Nat), ((beforeL os []).getD j 0).testBit i = true → i < j := by
  intro j
  induction j using Nat.strongRecOn with
  | ind j ih =>
    intro i hi
    cases ho : os[j]? with
    | none =>
      obtain ⟨l, h1, _⟩ := beforeL_ex os []
      have hlen : ∀ (os : List Oper) (acc : List Nat), (beforeL os acc).length = acc.length + os.length := by
        intro os
        induction os with
        | nil => intro acc; simp [beforeL]
        | cons o os ih => intro acc; simp only [beforeL]; rw [ih]; simp; omega
      have : (beforeL os [])[j]? = none := by
        rw [List.getElem?_eq_none_iff] at ho ⊢
        rw [hlen]; simpa using ho
      simp [List.getD, this] at hi
    | some o =>
      rw [bef_get ho] at hi
      rcases fold_bit _ _ hi with hz | ⟨ed, h1, h2, h3⟩
      · simp at hz
      · have hlt := backOk_spec hb j o ho ed (by simpa using h1) h2
        rw [Nat.zero_add] at hlt
        rcases h3 with rfl | h3
        · exact hlt
        · have : ((beforeL os []).getD ed.on 0).testBit i = true := by
            rw [← h3]
            congr 1
            simp only [List.getD, List.getElem?_take]
            rw [if_pos (by omega)]
          exact Nat.lt_trans (ih ed.on hlt i this) hlt
theorem items_get {clone : Nat → Bool} : ∀ {os : List Oper} {i nid : Nat} {x : Item}, x ∈ items clone os i nid → ∃ k, os[k]? = some x.2.2 ∧ x.1 = i + k ∧ nid ≤ x.2.1 ∧ (allocs clone x.2.2.op = true → x.2.1 < nid + nAllocs clone os)
  | [], _, _, _, hx => by cases hx
  | o :: os, i, nid, x, hx => by
    simp only [items, List.mem_cons] at hx
    rcases hx with rfl | hx
    · exact ⟨0, by simp, rfl, Nat.le_refl _, fun h => by rw [nAllocs_cons]; simp only at h; rw [h]; simp⟩
    · obtain ⟨k, h1, h2, h3, h4⟩ := items_get hx
      refine ⟨k + 1, by simpa using h1, by omega, ?_, fun h => ?_⟩
      · cases hal : allocs clone o.op <;> rw [hal] at h3 <;> simp at h3 <;> omega
      · have := h4 h
        rw [nAllocs_cons]
        cases hal : allocs clone o.op <;> rw [hal] at this <;> simp at this ⊢ <;> omega
theorem items_mem {clone : Nat → Bool} : ∀ {os : List Oper} {i nid k : Nat} {o : Oper}, os[k]? = some o → ∃ n, (i + k, n, o) ∈ items clone os i nid
  | [], _, _, k, _, h => by simp at h
  | x :: os, i, nid, 0, o, h => by
    simp only [List.getElem?_cons_zero, Option.some.injEq] at h
    subst h
    exact ⟨nid, by simp [items]⟩
  | x :: os, i, nid, k + 1, o, h => by
    obtain ⟨n, hn⟩ := items_mem (clone := clone) (i := i + 1) (nid := bif allocs clone x.op then nid + 1 else nid) (os := os) (k := k) (o := o) (by simpa using h)
    exact ⟨n, by simp only [items, List.mem_cons]; right; rwa [show i + (k + 1) = i + 1 + k by omega]⟩
theorem items_pair {clone : Nat → Bool} : ∀ {os : List Oper} {i nid : Nat}, (items clone os i nid).Pairwise fun x y => x.1 < y.1 ∧ (allocs clone x.2.2.op = true → x.2.1 < y.2.1)
  | [], _, _ => List.Pairwise.nil
  | o :: os, i, nid => by
    refine List.Pairwise.cons (fun y hy => ?_) items_pair
    obtain ⟨k, _, h2, h3, _⟩ := items_get hy
    refine ⟨by simp only; omega, fun hal => ?_⟩
    simp only at hal
    rw [hal] at h3
    simp at h3 ⊢
    omega
theorem filter_out {l : List Item} {p p' : Item → Bool} {b : Item} (hp : l.Pairwise fun x y => x.1 < y.1) (hb : b ∈ l) (hpb : p b = true) (hpp : ∀ x ∈ l, p' x = (p x && x.1 != b.1)) :
    ∃ as rest, l.filter p = as ++ b :: rest ∧ l.filter p' = as ++ rest ∧ ∀ a ∈ as, a ∈ l ∧ p a = true ∧ a.1 < b.1 := by
  obtain ⟨l1, l2, rfl⟩ := List.append_of_mem hb
  rw [List.pairwise_append] at hp
  obtain ⟨_, h2, h3⟩ := hp
  have h1 : ∀ x ∈ l1, x.1 < b.1 := fun x hx => h3 x hx b (by simp)
  have h4 : ∀ x ∈ l2, b.1 < x.1 := fun x hx => (List.pairwise_cons.1 h2).1 x hx
  refine ⟨l1.filter p, l2.filter p, by simp [hpb], ?_, fun a ha => ?_⟩
  · have e1 : l1.filter p' = l1.filter p := List.filter_congr fun x hx => by
      rw [hpp x (by simp [hx])]
      have : (x.1 != b.1) = true := by have := h1 x hx; simp; omega
      rw [this]; simp
    have e2 : l2.filter p' = l2.filter p := List.filter_congr fun x hx => by
      rw [hpp x (by simp [hx])]
      have : (x.1 != b.1) = true := by have := h4 x hx; simp; omega
      rw [this]; simp
    have e3 : p' b = false := by rw [hpp b (by simp)]; simp
    simp [e1, e2, e3]
  · rw [List.mem_filter] at ha
    exact ⟨by simp [ha.1], ha.2, h1 a ha.1⟩
theorem pair_any {α : Type} {R : α → α → Prop} : ∀ {l : List α}, l.Pairwise R → ∀ x ∈ l, ∀ y ∈ l, x = y ∨ R x y ∨ R y x
  | [], _, _, hx, _, _ => by cases hx
  | z :: l, h, x, hx, y, hy => by
    rw [List.pairwise_cons] at h
    rcases List.mem_cons.1 hx with hx | hx
    · rcases List.mem_cons.1 hy with hy | hy
      · exact .inl (hx.trans hy.symm)
      · rw [hx]; exact .inr (.inl (h.1 y hy))
    · rcases List.mem_cons.1 hy with hy | hy
      · rw [hy]; exact .inr (.inr (h.1 x hx))
      · exact pair_any h.2 x hx y hy
theorem draw_run {E : Env ρ} {call : List Nat → Bool → Nat → List AV → List Blk → (AV → List Blk → Option ρ) → Option ρ} {L : Nat} (hE : EnvOk E L call) {fid : Nat} {path : List Nat} {ops : Array Oper} (hp : path.length + 1 = L) (hg : guardsOk ops.toList ops.toList = true)
    (hd : drawOk E ops.toList = true) {base : Nat} {K : St → Option ρ} {r : ρ} {Q : Exit → Act → World → Prop} {m : Nat} (hmb : m ≤ base) :
    ∀ (fuel : Nat) (listed : Array Bool) (acc : List (Nat × List Nat)) (S : St) (a : Act) (ν : Nat → Value) (w : World), listed.size = ops.size →
      (∀ j i, listed.getD j false = true → ((beforeL ops.toList []).getD j 0).testBit i = true → listed.getD i false = true) →
      ((items E.clone ops.toList 0 base).filter fun x => !listed.getD x.1 true).length = fuel → Sim ν S a w →
      (∀ x ∈ (items E.clone ops.toList 0 base).filter fun x => !listed.getD x.1 true, allocs E.clone x.2.2.op = true → x.2.1 < S.h.length ∧ lkB S.h x.2.1 = .dead) → m ≤ S.h.length →
      runD E call fid path ops.toList (beforeL ops.toList []) ((items E.clone ops.toList 0 base).filter fun x => !listed.getD x.1 true) acc S K = some r →
      (∀ ν' S' a' w', Sim ν' S' a' w' → Ev m ν S.h w ν' S'.h w' → m ≤ S'.h.length → Dd m S.h S'.h → K S' = some r → Q .normal a' w') →
      wpAnyIn fen 0 E.P .any ops Q fuel listed a w := by
  simp only [drawOk, Bool.and_eq_true] at hd
  obtain ⟨hback, hdr⟩ := hd
  have getD_tf : ∀ {listed : Array Bool} {j : Nat}, listed.size = ops.size → j < ops.size → listed.getD j true = listed.getD j false := fun {listed j} hs hj => by
    have : j < listed.size := by omega
    simp [this]
  have hpw := (items_pair (clone := E.clone) (os := ops.toList) (i := 0) (nid := base)).imp fun {x y} h => h.1
  intro fuel
  induction fuel with
  | zero =>
    intro listed acc S a ν w hsz hcl hlen H hdead hm e hQ
    have hnil := List.length_eq_zero_iff.1 hlen
    refine ⟨?_, ?_⟩
    · rw [List.eq_nil_iff_forall_not_mem]
      intro j hj
      obtain ⟨h0, o, ho, _⟩ := mem_ready.1 hj
      obtain ⟨n, hn⟩ := items_mem (clone := E.clone) (i := 0) (nid := base) (os := ops.toList) (k := j) (o := o) (by simpa using ho)
      have : (0 + j, n, o) ∈ (items E.clone ops.toList 0 base).filter fun x => !listed.getD x.1 true := List.mem_filter.2 ⟨hn, by simp only [Nat.zero_add]; rw [h0]; rfl⟩
      rw [hnil] at this
      cases this
    · rw [hnil] at e
      exact hQ ν S a w H (Ev.refl _ _ _ _) hm (Dd.refl _ _) e
  | succ fuel ih =>
    intro listed acc S a ν w hsz hcl hlen H hdead hm e hQ
    refine ⟨fun hr => ?_, fun j hj => ?_⟩
    · -- the first of those that are left is ready
      exfalso
      cases hrem : (items E.clone ops.toList 0 base).filter fun x => !listed.getD x.1 true with
      | nil => rw [hrem] at hlen; simp at hlen
      | cons x l =>
        have hx : x ∈ (items E.clone ops.toList 0 base).filter fun x => !listed.getD x.1 true := by rw [hrem]; simp
        rw [List.mem_filter] at hx
        obtain ⟨k, h1, h2, _⟩ := items_get hx.1
        have hk : x.1 = k := by omega
        have hready : x.1 ∈ Region.ready .any ops listed := mem_ready.2 ⟨by simpa using hx.2, x.2.2, by rw [hk]; simpa using h1, fun ed hed hb => by
          have hlt := backOk_spec hback k x.2.2 h1 ed hed hb
          have hks : k < ops.size := by
            have := (List.getElem?_eq_some_iff.1 h1).1
            simpa using this
          cases hl : listed.getD ed.on false with
          | true => rfl
          | false =>
            exfalso
            obtain ⟨o', ho'⟩ : ∃ o', ops.toList[ed.on]? = some o' := ⟨_, List.getElem?_eq_getElem (by simp; omega)⟩
            obtain ⟨n, hn⟩ := items_mem (clone := E.clone) (i := 0) (nid := base) ho'
            have hin : (0 + ed.on, n, o') ∈ x :: l := by
              rw [← hrem]
              refine List.mem_filter.2 ⟨hn, ?_⟩
              simp only [Nat.zero_add]
              rw [getD_tf hsz (by omega), hl]
              rfl
            have hpl : (x :: l).Pairwise fun x y => x.1 < y.1 := by rw [← hrem]; exact hpw.filter _
            rcases List.mem_cons.1 hin with h3 | h3
            · rw [← h3] at hk; simp at hk; omega
            · have := (List.pairwise_cons.1 hpl).1 _ h3
              simp only at this; omega⟩
        rw [hr] at hready
        cases hready
    · obtain ⟨h0, o, ho, hed⟩ := mem_ready.1 hj
      have hjs : j < ops.size := (Array.getElem?_eq_some_iff.1 ho).1
      have hol : ops.toList[j]? = some o := by simpa using ho
      obtain ⟨n, hn⟩ := items_mem (clone := E.clone) (i := 0) (nid := base) hol
      rw [Nat.zero_add] at hn
      have hpp : ∀ x ∈ items E.clone ops.toList 0 base, (fun x : Item => !(listed.setIfInBounds j true).getD x.1 true) x = ((fun x : Item => !listed.getD x.1 true) x && x.1 != j) := fun x hx => by
        by_cases hxj : x.1 = j
        · simp only [hxj]
          have : j < listed.size := by omega
          simp [this]
        · have h1 : (listed.setIfInBounds j true).getD x.1 true = listed.getD x.1 true := getD_set_ne true (Ne.symm hxj)
          have h2 : (x.1 != j) = true := by simpa using hxj
          simp only [h1, h2, Bool.and_true]
      obtain ⟨as, rest, f1, f2, f3⟩ := filter_out (b := (j, n, o)) hpw hn (by simp only [h0]; rfl) hpp
      have hbit : ∀ i, ((beforeL ops.toList []).getD j 0).testBit i = true → listed.getD i false = true := fun i hi => by
        rw [bef_get hol] at hi
        rcases fold_bit _ _ hi with hz | ⟨ed, h1, h2, h3⟩
        · simp at hz
        · have hl := hed ed (by simpa using h1) h2
          rcases h3 with rfl | h3
          · exact hl
          · refine hcl ed.on i hl ?_
            have hlt := backOk_spec hback j o hol ed (by simpa using h1) h2
            rw [← h3]
            congr 1
            simp only [List.getD, List.getElem?_take]
            rw [if_pos (by omega)]
      have hpairs := items_pair (clone := E.clone) (os := ops.toList) (i := 0) (nid := base)
      have hmemj : ((j, n, o) : Item) ∈ (items E.clone ops.toList 0 base).filter fun x => !listed.getD x.1 true := by rw [f1]; simp
      have hne : ∀ x ∈ (items E.clone ops.toList 0 base).filter (fun x => !listed.getD x.1 true), x ≠ (j, n, o) → allocs E.clone x.2.2.op = true → allocs E.clone o.op = true → x.2.1 ≠ n := fun x hx hxj h1 h2 => by
        have hsub : ((items E.clone ops.toList 0 base).filter fun x => !listed.getD x.1 true).Pairwise fun x y => x.1 < y.1 ∧ (allocs E.clone x.2.2.op = true → x.2.1 < y.2.1) := hpairs.filter _
        rcases pair_any hsub x hx _ hmemj with he | hr | hr
        · exact absurd he hxj
        · exact Nat.ne_of_lt (hr.2 h1)
        · exact (Nat.ne_of_lt (hr.2 h2)).symm
      rw [f1] at e
      have e' := bubble (b := (j, n, o)) (h0 := S.h) (t0 := S.t) (K := K) (r := r) hE.pureEq as acc S.t S.h (fun x hx => by
          obtain ⟨g1, g2, g3⟩ := f3 x hx
          obtain ⟨k, h1, h2, _⟩ := items_get g1
          have hk : x.1 = k := by omega
          have hkj : k < j := by simp only at g3; omega
          have hnb : ((beforeL ops.toList []).getD j 0).testBit k = false := by
            cases hb : ((beforeL ops.toList []).getD j 0).testBit k with
            | false => rfl
            | true =>
              exfalso
              have hl := hbit k hb
              simp only [Bool.not_eq_true'] at g2
              rw [getD_tf hsz (by omega), hk, hl] at g2
              cases g2
          have hnb2 : ((beforeL ops.toList []).getD k 0).testBit j = false := by
            cases hb : ((beforeL ops.toList []).getD k 0).testBit j with
            | false => rfl
            | true => have := bef_lt hback k j hb; omega
          have := drawOkFrom_spec hdr j o hol k x.2.2 (by omega) h1
          rw [Nat.zero_add, hnb] at this
          rw [← hk] at h1 hnb hnb2
          exact clash_apart (this.resolve_right (by simp)) h1 hol hnb hnb2)
        (fun _ _ => rfl)
        (fun hal => (hdead _ hmemj hal).2)
        (fun x hx h1 h2 => hne x (by rw [f1]; simp [hx]) (fun he => by
          have := (f3 x hx).2.2
          rw [he] at this
          simp at this) h1 h2)
        (fun x hx h1 y hy hmem => VR.refs2 H.heap (ev_VR H y) _ hmem ((hdead x (by rw [f1]; simp [hx]) h1).2)) (fun _ _ _ _ _ => .inl rfl) e
      simp only [runD, stepC] at e'
      split at e' <;> try (cases e'; done)
      refine stepP_sound hE.call hE.plain hE.clone hg hp ho H (fun hal => hdead _ hmemj hal) e' fun ν' w' u v S' g1 g2 g3 g4 g5 g6 g7 => ?_
      have hrem : ((items E.clone ops.toList 0 base).filter fun x => !(listed.setIfInBounds j true).getD x.1 true) = as ++ rest := f2
      have hin : ∀ x ∈ as ++ rest, x ∈ (items E.clone ops.toList 0 base).filter fun x => !listed.getD x.1 true := fun x hx => by
        rw [f1]
        rcases List.mem_append.1 hx with hx | hx <;> simp [hx]
      have hnj : ∀ x ∈ as ++ rest, x ≠ (j, n, o) := fun x hx he => by
        rw [← hrem, List.mem_filter] at hx
        rw [he] at hx
        have hlt : j < listed.size := by omega
        simp [hlt] at hx
      have hm' : m ≤ S'.h.length := Nat.le_trans hm g4
      refine ih (listed.setIfInBounds j true) ((j, fpAt E ops.toList o S) :: acc) { t := setDst S'.t o.dst v, h := S'.h } _ ν' w' (by simpa using hsz) (fun j' i h1 h2 => ?_) ?_ ?_ (fun x hx hal => ?_) hm' ?_ fun ν'' S'' a'' w'' q1 q2 q3 q4 q5 => hQ ν'' S'' a'' w'' q1 ((g3.mono hm).trans q2 (Nat.le_refl _)) q3 (fun i hi hdi => q4 i hi ?_) q5
      · by_cases hjj : j = j'
        · subst hjj
          exact getD_set_true (hbit i h2)
        · rw [getD_set_ne false hjj] at h1
          exact getD_set_true (hcl j' i h1 h2)
      · rw [hrem]
        rw [f1] at hlen
        simp only [List.length_append, List.length_cons] at hlen ⊢
        omega
      · rw [g6]
        exact H.put g3 g2 o.dst g1
      · rw [hrem] at hx
        obtain ⟨h1, h2⟩ := hdead x (hin x hx) hal
        refine ⟨by simp only; omega, g5 _ h1 ?_ h2⟩
        by_cases hob : allocs E.clone o.op = true
        · exact .inl (hne x (hin x hx) (hnj x hx) hal hob)
        · exact .inr (by simpa using hob)
      · rw [hrem]
        exact g7
      · refine g5 i (by omega) ?_ hdi
        by_cases hob : allocs E.clone o.op = true
        · left
          obtain ⟨k, _, _, h3, _⟩ := items_get hn
          simp only at h3
          show i ≠ n
          omega
        · exact .inr (by simpa using hob)
theorem draw_ok {E : Env ρ} (hmix : E.P.follows .mixedOrders = true) (L : Nat) (call : List Nat → Bool → Nat → List AV → List Blk → (AV → List Blk → Option ρ) → Option ρ) (hE : EnvOk E L call) : DrawOk E L call := by
  intro fid rid path ops S a K r m ν w hp e H hm
  unfold regionK at e
  split at e <;> try (cases e; done)
  rename_i hg
  simp only [Bool.true_and, Bool.or_eq_false_iff, Bool.not_eq_false'] at hg
  apply wpIn_region_any hmix
  have hpre := fun id => lkB_pre S.h (nAllocs E.clone ops.toList) id
  have H1 : Sim ν { t := S.t, h := S.h ++ List.replicate (nAllocs E.clone ops.toList) .dead } a { w with drawn := w.drawn + 1 } := H.same hpre rfl rfl rfl rfl
  have ev0 : Ev m ν S.h w ν (S.h ++ List.replicate (nAllocs E.clone ops.toList) .dead) { w with drawn := w.drawn + 1 } := Ev.same (w := w) (w' := { w with drawn := w.drawn + 1 }) hpre rfl rfl rfl rfl m
  have hall : ((items E.clone ops.toList 0 S.h.length).filter fun x => !(Array.replicate ops.size false).getD x.1 true) = items E.clone ops.toList 0 S.h.length := by
    rw [List.filter_eq_self]
    intro x hx
    obtain ⟨k, h1, h2, _⟩ := items_get hx
    have hlt : k < ops.size := by
      have := (List.getElem?_eq_some_iff.1 h1).1
      simpa using this
    have : x.1 = k := by omega
    simp [this, hlt]
  have hlen : ∀ (os : List Oper) (i nid : Nat), (items E.clone os i nid).length = os.length := by
    intro os
    induction os with
    | nil => intros; rfl
    | cons o os ih => intro i nid; simp [items, ih]
  refine draw_run (fid := fid) (base := S.h.length) (K := K .normal) (r := r) hE hp hg.2 hg.1 hm ops.size _ [] { t := S.t, h := S.h ++ List.replicate (nAllocs E.clone ops.toList) .dead } a ν _ (by simp) (fun j i h1 _ => ?_) ?_ H1 (fun x hx hal => ?_) ?_ ?_ fun ν' S' a' w' g1 g2 g3 g4 g5 => ⟨ν', S', g1, ev0.trans g2 (Nat.le_refl _), g3, fun j hj hd => g4 j hj (by simp only [hpre]; exact hd), g5⟩
  · exfalso
    rcases Nat.lt_or_ge j ops.size with h | h
    · simp [h] at h1
    · simp [h] at h1
  · rw [hall, hlen]; simp
  · rw [hall] at hx
    obtain ⟨k, _, _, h3, h4⟩ := items_get hx
    have := h4 hal
    refine ⟨by simp; omega, ?_⟩
    simp only [hpre]
    exact lkB_ge _ _ h3
  · simp; omega
  · rw [hall, ← opsD_runD]
    exact e
end
end Go.Am
end

noncomputable section
namespace Go.Am
variable [Ghost]
section
variable {ρ : Type} {ν ν' : Nat → Value} {h h' : List Blk} {w w' : World} {P : Program}
structure LEnt (ρ : Type) where
  path : List Nat
  fid : Nat
  bid : Nat
  L : LoopSpec
  bF : Val (tyL L.cs) → Val (tyL L.vs) → (Val (tyL L.vs) → Option ρ) → ((i : Nat) → Val (tyL (L.zs i)) → Option ρ) → Option ρ
def eqL : List Nat → List Nat → Bool
  | [], [] => true
  | a :: l, b :: m => Nat.beq a b && eqL l m
  | _, _ => false
def findE : List (LEnt ρ) → List Nat → Nat → Nat → Option (LEnt ρ)
  | [], _, _, _ => none
  | x :: l, path, fid, bid => match Nat.beq x.bid bid && (Nat.beq x.fid fid && eqL x.path path) with
    | true => some x
    | false => findE l path fid bid
def loopsTab (tab : List (LEnt ρ)) (path : List Nat) (fid bid m : Nat) (S : St) (K : Exit → St → Option ρ) : Option ρ :=
  match findE tab path fid bid with
  | some x => runLoop x.L x.bF m S K
  | none => none
structure JEnt where
  path : List Nat
  fid : Nat
  rid : Nat
  pin : Nat
  tpl : Tpl
  vs : List Ty
def findJ : List JEnt → List Nat → Nat → Nat → Option JEnt
  | [], _, _, _ => none
  | x :: l, path, fid, rid => match Nat.beq x.rid rid && (Nat.beq x.fid fid && eqL x.path path) with
    | true => some x
    | false => findJ l path fid rid
def joinsTab (js : List JEnt) (path : List Nat) (fid rid m : Nat) : Option (((St → Option ρ) → Option ρ) → (St → Option ρ) → Option ρ) :=
  match findJ js path fid rid with
  | some x => match Nat.ble m x.pin with
    | true => some fun body rest => joinT (α := Val (tyL x.vs)) (fun kk => body fun S => match matchT x.tpl x.pin [] x.vs S with
      | some (_, v) => kk v
      | none => none) (fun v => rest (instT x.tpl [] x.vs () v))
    | false => none
  | none => none
theorem joins_tab {E : Env ρ} {js : List JEnt} (h : E.joins = joinsTab js) : JoinOk E := by
  intro path fid rid m J e
  rw [h] at e
  unfold joinsTab at e
  split at e <;> try (cases e; done)
  rename_i x hx
  split at e <;> try (cases e; done)
  rename_i hm
  have hm : m ≤ x.pin := Nat.le_of_ble_eq_true hm
  refine ⟨fun S => match matchT x.tpl x.pin [] x.vs S with | some (_, v) => some (instT x.tpl [] x.vs () v) | none => none, ?_, ?_⟩
  · intro S S' ν a w e H hl
    simp only at e
    split at e <;> try (cases e; done)
    rename_i p v hmt
    cases e
    obtain ⟨ν', h1, h2, h3, h4⟩ := match_ok _ _ _ _ _ _ _ ν a w hmt H
    exact ⟨ν', h1, h2.mono hm, Nat.le_trans hm h3, fun j hj hd => h4 j (by omega) hd⟩
  · intro body rest
    cases e
    simp only [joinT]
    congr 1
    funext S
    split <;> simp_all
def findP : List (Nat × PFun) → Nat → Option PFun
  | [], _ => none
  | x :: l, f => match Nat.beq x.1 f with
    | true => some x.2
    | false => findP l f
def bodyOf (P : Program) (f : Nat) : Option Code :=
  match P.funcs[f]? with
  | some fn => fn.body
  | none => none
structure LEnt.Ok (E : Env ρ) (x : LEnt ρ) : Prop where
  one : (((bodyOf E.P x.fid).elim [] (loopsOf 0)).filter fun y => Nat.beq y.1 x.bid).length = 1
  law : ∀ p v kn kx, goC E (callN E (10 - x.path.length / 2)) x.fid x.path x.L.pin x.bid (lpBody (bodyOf E.P x.fid) x.bid) (instT x.L.head x.L.cs x.L.vs p v) (stepK x.L kn kx) = x.bF p v (kn p) (fun i => kx i p)
omit [Ghost] in
theorem eqL_eq : ∀ {l m : List Nat}, eqL l m = true → l = m
  | [], [], _ => rfl
  | a :: l, b :: m, h => by
    simp only [eqL, Bool.and_eq_true] at h
    rw [Nat.eq_of_beq_eq_true h.1, eqL_eq h.2]
  | [], _ :: _, h => by cases h
  | _ :: _, [], h => by cases h
omit [Ghost] in
theorem findE_spec : ∀ {tab : List (LEnt ρ)} {path : List Nat} {fid bid : Nat} {x : LEnt ρ}, findE tab path fid bid = some x → x ∈ tab ∧ x.path = path ∧ x.fid = fid ∧ x.bid = bid
  | [], _, _, _, _, h => by cases h
  | y :: tab, path, fid, bid, x, h => by
    unfold findE at h
    split at h
    · rename_i hb
      simp only [Bool.and_eq_true] at hb
      cases h
      exact ⟨by simp, eqL_eq hb.2.2, Nat.eq_of_beq_eq_true hb.2.1, Nat.eq_of_beq_eq_true hb.1⟩
    · obtain ⟨h1, h2⟩ := findE_spec h
      exact ⟨by simp [h1], h2⟩
omit [Ghost] in
theorem findP_spec : ∀ {tab : List (Nat × PFun)} {f : Nat} {p : PFun}, findP tab f = some p → (f, p) ∈ tab
  | [], _, _, h => by cases h
  | y :: tab, f, p, h => by
    unfold findP at h
    split at h
    · rename_i hb
      cases h
      rw [← Nat.eq_of_beq_eq_true hb]; simp
    · exact List.mem_cons_of_mem _ (findP_spec h)
omit [Ghost] in
theorem loopsOf_sub : ∀ (c : Code) (b0 : Nat) {bid : Nat} {b : Code}, (bid, b) ∈ loopsOf b0 c → ∀ y ∈ loopsOf bid b, y ∈ loopsOf b0 c
  | .seq c d, b0, bid, b, h, y, hy => by
    simp only [loopsOf, List.mem_append] at h ⊢
    exact h.imp (fun h => loopsOf_sub c b0 h y hy) (fun h => loopsOf_sub d b0 h y hy)
  | .cond _ c d, b0, bid, b, h, y, hy => by
    simp only [loopsOf, List.mem_append] at h ⊢
    exact h.imp (fun h => loopsOf_sub c b0 h y hy) (fun h => loopsOf_sub d b0 h y hy)
  | .block id c, b0, bid, b, h, y, hy => by
    simp only [loopsOf] at h ⊢
    exact loopsOf_sub c id h y hy
  | .loop c, b0, bid, b, h, y, hy => by
    simp only [loopsOf, List.mem_cons, Prod.mk.injEq] at h ⊢
    rcases h with ⟨rfl, rfl⟩ | h
    · exact .inr hy
    · exact .inr (loopsOf_sub c b0 h y hy)
  | .skip, _, _, _, h, _, _ => by cases h
  | .region .., _, _, _, h, _, _ => by cases h
  | .exit _, _, _, _, h, _, _ => by cases h
  | .ret, _, _, _, h, _, _ => by cases h
  | .label _, _, _, _, h, _, _ => by cases h
  | .goto _, _, _, _, h, _, _ => by cases h
  | .rangeFunc .., _, _, _, h, _, _ => by cases h
  | .scope c, b0, bid, b, h, y, hy => by
    simp only [loopsOf] at h ⊢
    exact loopsOf_sub c b0 h y hy
  | .refuse _, _, _, _, h, _, _ => by cases h
omit [Ghost] in
theorem loopsOf_size : ∀ (c : Code) (b0 : Nat) {bid : Nat} {b : Code}, (bid, b) ∈ loopsOf b0 c → SizeOf.sizeOf b < SizeOf.sizeOf c
  | .seq c d, b0, bid, b, h => by
    simp only [loopsOf, List.mem_append] at h
    rcases h with h | h
    · have := loopsOf_size c b0 h; simp; omega
    · have := loopsOf_size d b0 h; simp; omega
  | .cond _ c d, b0, bid, b, h => by
    simp only [loopsOf, List.mem_append] at h
    rcases h with h | h
    · have := loopsOf_size c b0 h; simp; omega
    · have := loopsOf_size d b0 h; simp; omega
  | .block id c, b0, bid, b, h => by
    have := loopsOf_size c id h; simp; omega
  | .loop c, b0, bid, b, h => by
    simp only [loopsOf, List.mem_cons, Prod.mk.injEq] at h
    rcases h with ⟨rfl, rfl⟩ | h
    · simp
    · have := loopsOf_size c b0 h; simp; omega
  | .skip, _, _, _, h => by cases h
  | .region .., _, _, _, h => by cases h
  | .exit _, _, _, _, h => by cases h
  | .ret, _, _, _, h => by cases h
  | .label _, _, _, _, h => by cases h
  | .goto _, _, _, _, h => by cases h
  | .rangeFunc .., _, _, _, h => by cases h
  | .scope c, b0, bid, b, h => by
    have := loopsOf_size c b0 h; simp; omega
  | .refuse _, _, _, _, h => by cases h
theorem loops_ok {E : Env ρ} {tab : List (LEnt ρ)} (hE : E.loops = loopsTab tab) (hok : ∀ x ∈ tab, x.Ok E) {n : Nat} (hn : n ≤ 10) (hEnv : EnvOk E (22 - 2 * n) (callN E n)) (hD : DrawOk E (22 - 2 * n) (callN E n))
    {path : List Nat} {f : Nat} {fn : Func} {c : Code} (hp : path.length + 2 = 22 - 2 * n) (hf : E.P.funcs[f]? = some fn) (hc : fn.body = some c) : ∀ x ∈ loopsOf 0 c, LoopOk E path f x.1 x.2 := by
  have hbody : bodyOf E.P f = some c := by simp only [bodyOf, hf, hc]
  have key : ∀ (N : Nat) (x : Nat × Code), SizeOf.sizeOf x.2 < N → x ∈ loopsOf 0 c → LoopOk E path f x.1 x.2 := by
    intro N
    induction N with
    | zero => intro x h; omega
    | succ N ih =>
      intro ⟨bid, b⟩ hN hx
      have hin : ∀ y ∈ loopsOf bid b, LoopOk E path f y.1 y.2 := fun y hy => ih y (by have := loopsOf_size b bid (bid := y.1) (b := y.2) hy; simp only at hN; omega) (loopsOf_sub c 0 hx y hy)
      cases hfe : findE tab path f bid with
      | none =>
        intro m S K r ν a w e
        rw [hE] at e
        simp only [loopsTab, hfe] at e
        cases e
      | some x =>
        obtain ⟨h1, h2, h3, h4⟩ := findE_spec hfe
        obtain ⟨hone, hlaw⟩ := hok x h1
        subst h3 h4
        rw [hbody] at hone hlaw
        simp only [Option.elim] at hone
        have hb : lpBody (some c) x.bid = b := by
          have hmem : (x.bid, b) ∈ (loopsOf 0 c).filter fun y => Nat.beq y.1 x.bid := List.mem_filter.2 ⟨hx, by simp⟩
          obtain ⟨z, hz⟩ := List.length_eq_one_iff.1 hone
          rw [hz, List.mem_singleton] at hmem
          unfold lpBody
          simp only
          cases hfd : (loopsOf 0 c).find? fun y => y.1 == x.bid with
          | none =>
            have := List.find?_eq_none.1 hfd _ hx
            simp at this
          | some y =>
            have hy1 := List.mem_of_find?_eq_some hfd
            have hy2 := List.find?_some hfd
            have : y ∈ (loopsOf 0 c).filter fun y => Nat.beq y.1 x.bid := List.mem_filter.2 ⟨hy1, by simpa using hy2⟩
            rw [hz, List.mem_singleton] at this
            rw [this, ← hmem]
        rw [hb] at hlaw
        have hd : 10 - x.path.length / 2 = n := by rw [h2]; omega
        rw [hd, h2] at hlaw
        rw [← h2] at hlaw ⊢
        refine loop_sound match_ok hEnv hD (by rw [h2]; omega) (by rw [h2]; exact hin) x.L x.bF (fun m S K => ?_) (fun p v kn kx => hlaw p v kn kx)
        rw [hE]
        simp only [loopsTab, h2, hfe]
  exact fun x hx => key _ x (Nat.lt_succ_self _) hx
def LoopsOk (E : Env ρ) : Prop := ∀ n, n ≤ 10 → EnvOk E (22 - 2 * n) (callN E n) → DrawOk E (22 - 2 * n) (callN E n) → ∀ (path : List Nat) (f : Nat) (fn : Func) (c : Code), path.length + 2 = 22 - 2 * n → E.P.funcs[f]? = some fn → fn.body = some c → ∀ x ∈ loopsOf 0 c, LoopOk E path f x.1 x.2
structure UEnt where
  path : List Nat
  fid : Nat
  bid : Nat
  n : Nat
def findU : List UEnt → List Nat → Nat → Nat → Option UEnt
  | [], _, _, _ => none
  | x :: l, path, fid, bid => match Nat.beq x.bid bid && (Nat.beq x.fid fid && eqL x.path path) with
    | true => some x
    | false => findU l path fid bid
def loopsU (E0 : Env ρ) (us : List UEnt) (path : List Nat) (fid bid m : Nat) (S : St) (K : Exit → St → Option ρ) : Option ρ :=
  match findU us path fid bid with
  | some u => unrollK (fun S K => goC E0 (callN E0 (10 - u.path.length / 2)) u.fid u.path m u.bid (lpBody (bodyOf E0.P u.fid) u.bid) S K) u.n S K
  | none => E0.loops path fid bid m S K
omit [Ghost] in
theorem findU_spec : ∀ {tab : List UEnt} {path : List Nat} {fid bid : Nat} {x : UEnt}, findU tab path fid bid = some x → x ∈ tab ∧ x.path = path ∧ x.fid = fid ∧ x.bid = bid
  | [], _, _, _, _, h => by cases h
  | y :: tab, path, fid, bid, x, h => by
    unfold findU at h
    split at h
    · rename_i hb
      simp only [Bool.and_eq_true] at hb
      cases h
      exact ⟨by simp, eqL_eq hb.2.2, Nat.eq_of_beq_eq_true hb.2.1, Nat.eq_of_beq_eq_true hb.1⟩
    · obtain ⟨h1, h2⟩ := findU_spec h
      exact ⟨by simp [h1], h2⟩
theorem unroll_sound {E : Env ρ} {call : List Nat → Bool → Nat → List AV → List Blk → (AV → List Blk → Option ρ) → Option ρ} {N : Nat} (hE : EnvOk E N call) (hD : DrawOk E N call) {fid bid m : Nat} {path : List Nat} (hpath : path.length + 2 = N) {b : Code}
    (hin : ∀ x ∈ loopsOf bid b, LoopOk E path fid x.1 x.2) {K : Exit → St → Option ρ} {r : ρ} {h₀ : List Blk} {ν₀ : Nat → Value} {w₀ : World} : ∀ (n : Nat) (S : St) (ν : Nat → Value) (a : Act) (w : World), unrollK (fun S K => goC E call fid path m bid b S K) n S K = some r → Sim ν S a w → m ≤ S.h.length → Ev m ν₀ h₀ w₀ ν S.h w → Dd m h₀ S.h →
      Code.roundsIn fen 0 E.P b (AftE m ν₀ h₀ w₀ K r) n a w
  | 0, S, ν, a, w, e, _, _, _, _ => by cases e
  | n + 1, S, ν, a, w, e, H, hm, ev, dd => by
    rw [roundsIn_succ]
    simp only [unrollK] at e
    refine wpIn_mono (goC_sound hE hD hpath b bid S _ ν a w hin e H hm) fun x a₂ w₂ ha => ?_
    obtain ⟨ν₂, S₂, H2, ev2, hp2, dd2, hk⟩ := ha
    have ev12 := ev.trans ev2 (Nat.le_refl m)
    have dd12 := dd.trans dd2 (Nat.le_refl m)
    cases x with
    | normal => exact unroll_sound hE hD hpath hin n S₂ ν₂ a₂ w₂ hk H2 hp2 ev12 dd12
    | exit id => exact ⟨ν₂, S₂, H2, ev12, hp2, dd12, hk⟩
    | ret => exact ⟨ν₂, S₂, H2, ev12, hp2, dd12, hk⟩
    | goto l => exact ⟨ν₂, S₂, H2, ev12, hp2, dd12, hk⟩
    | panic ch => exact ⟨ν₂, S₂, H2, ev12, hp2, dd12, hk⟩
    | outgrown => exact ⟨ν₂, S₂, H2, ev12, hp2, dd12, hk⟩
theorem no_loops {E : Env ρ} (h0 : E.loops = loopsTab []) : LoopsOk E := fun n _ _ _ path f fn c _ _ _ x _ m S K r ν a w e => by
  rw [h0] at e
  cases e
theorem lpBody_eq {c : Code} {bid : Nat} {b : Code} (hone : ((loopsOf 0 c).filter fun y => Nat.beq y.1 bid).length = 1) (hx : (bid, b) ∈ loopsOf 0 c) : lpBody (some c) bid = b := by
  have hmem : (bid, b) ∈ (loopsOf 0 c).filter fun y => Nat.beq y.1 bid := List.mem_filter.2 ⟨hx, by simp⟩
  obtain ⟨z, hz⟩ := List.length_eq_one_iff.1 hone
  rw [hz, List.mem_singleton] at hmem
  unfold lpBody
  simp only
  cases hfd : (loopsOf 0 c).find? fun y => y.1 == bid with
  | none =>
    have := List.find?_eq_none.1 hfd _ hx
    simp at this
  | some y =>
    have hy1 := List.mem_of_find?_eq_some hfd
    have hy2 := List.find?_some hfd
    have : y ∈ (loopsOf 0 c).filter fun y => Nat.beq y.1 bid := List.mem_filter.2 ⟨hy1, by simpa using hy2⟩
    rw [hz, List.mem_singleton] at this
    rw [this, ← hmem]
theorem loopsU_ok {E E0 : Env ρ} (hD0 : Flat) (hlib0 : LibOk E0) (hP : E0.P = E.P) (hmix : E0.P.follows .mixedOrders = true) (hl0 : LoopsOk E0) {us : List UEnt} (hE : E.loops = loopsU E0 us)
    (hone : ∀ u ∈ us, (((bodyOf E.P u.fid).elim [] (loopsOf 0)).filter fun y => Nat.beq y.1 u.bid).length = 1) {n : Nat} (hn : n ≤ 10)
    {path : List Nat} {f : Nat} {fn : Func} {c : Code} (hp : path.length + 2 = 22 - 2 * n) (hf : E.P.funcs[f]? = some fn) (hc : fn.body = some c) : ∀ x ∈ loopsOf 0 c, LoopOk E path f x.1 x.2 := by
  have hdraw : ∀ L call, EnvOk E0 L call → DrawOk E0 L call := draw_ok hmix
  have hcall := callN_sound (.inl hD0) hlib0 hdraw (fun n hn hEnv => hl0 n hn hEnv (hdraw _ _ hEnv)) n hn
  have hEnv : EnvOk E0 (22 - 2 * n) (callN E0 n) := ⟨by
    cases n with
    | zero => exact .inl fun _ _ _ _ _ _ => rfl
    | succ n => exact .inr (callN_lib n), hcall, hlib0.plain, hlib0.clone, hlib0.joins⟩
  have hin := hl0 n hn hEnv (hdraw _ _ hEnv) path f fn c hp (hP ▸ hf) hc
  have hbody : bodyOf E.P f = some c := by simp only [bodyOf, hf, hc]
  intro ⟨bid, b⟩ hx m S K r ν a w e H hm
  rw [hE] at e
  unfold loopsU at e
  split at e
  · rename_i u hu
    obtain ⟨h1, h2, h3, h4⟩ := findU_spec hu
    have hd : 10 - u.path.length / 2 = n := by rw [h2]; omega
    have h5 := hone u h1
    rw [h3, h4, hbody] at h5
    rw [hd, h2, h3, h4, hP, hbody, lpBody_eq h5 hx] at e
    have := unroll_sound hEnv (hdraw _ _ hEnv) hp (fun y hy => hin y (loopsOf_sub c 0 hx y hy)) u.n S ν a w e H hm (Ev.refl _ _ _ _) (Dd.refl _ _)
    rw [hP] at this
    exact wpIn_loop_rounds u.n this
  · have := hin (bid, b) hx m S K r ν a w e H hm
    rwa [hP] at this
theorem out_cell (H : HR ν h w) {c : AV} {u : Value} (hu : VR1 ν h w c u) : VRs w Ghost.G (snap1 h c) u := snap1_VRs H (fun b hb => .inr hb) hu fun id b _ hl hb => H.ghne id b hl hb
theorem out_box (H : HR ν h w) {id : Nat} {cs : List AV} (hl : lkB h id = .cells cs) : (∀ b, blkNo (ν id) = some b → ¬ Ghost.G b) ∧ ∀ c ∈ cs, ∀ u, VR1 ν h w c u → VRs w Ghost.G (snap1 h c) u :=
  ⟨fun b hb => H.ghne id b (by rw [hl]; rfl) hb, fun _ _ _ hu => out_cell H hu⟩
theorem All2.up2 : ∀ {as : List AV} {vs : List Value}, All2 (Go.Am.VR2 ν h w) as vs → All2 (Go.Am.VR ν h w) as vs
  | [], [], _ => trivial
  | _ :: _, _ :: _, h => ⟨h.1.up, All2.up2 h.2⟩
  | [], _ :: _, h => h.elim
  | _ :: _, [], h => h.elim
theorem resH_val (H : HR ν h w) : ∀ (l : List Ty) {x : Val (tyL l)} {v : AV} {u : Value}, VR ν h w v u → resH l h v = some x → RR w Ghost.G l x u
  | [], _, _, _, _, e => by cases e
  | [t], x, v, u, hv, e => argV_val H hv (fun _ _ _ hu => out_cell H hu) (fun _ _ _ hl => out_box H hl) e
  | t :: u' :: l, x, v, u, hv, e => by
    cases v with
    | tup as =>
      obtain ⟨us, rfl, h2⟩ := hv
      exact ⟨us, rfl, argsT_val H (u' :: l) t x as us.toList h2.up2 (fun _ _ _ _ _ hu => out_cell H hu) (fun _ _ _ _ _ hl => out_box H hl) e⟩
    | _ => cases e
theorem AT.mono {G G' : Nat → Prop} (hm : ∀ b, G' b → G b) : ∀ {l : List Ty} {t : Ty} {x : Val (tys t l)} {vs : List Value}, AT w G l t x vs → AT w G' l t x vs
  | [], t, x, vs, ⟨v, h1, h2⟩ => ⟨v, h1, h2.mono hm⟩
  | u :: l, t, x, vs, ⟨v, vs', h1, h2, h3⟩ => ⟨v, vs', h1, h2.mono hm, AT.mono hm h3⟩
theorem AL.mono {G G' : Nat → Prop} (hm : ∀ b, G' b → G b) : ∀ {l : List Ty} {x : Val (tyL l)} {vs : List Value}, AL w G l x vs → AL w G' l x vs
  | [], _, _, h => h
  | _ :: _, _, _, h => AT.mono hm h
theorem AL.VR : ∀ {l : List Ty} {x : Val (tyL l)} {vs : List Value}, AL w (Av ν h) l x vs → All2 (VR ν h w) (encL l x) vs
  | [], _, _, h => by cases h; trivial
  | _ :: _, _, _, h => AT.VR h
end
omit [Ghost] in
theorem pure_gen {f : Nat} {p : PFun} (E : Env (Val (tyL p.rs))) (hlib : ∀ [Ghost], LibOk E) (hmix : E.P.follows .mixedOrders = true) (hl : ∀ [Ghost], Flat → LoopsOk E) (law : pureFun p E f) : PureOk E.P f p := by
  intro G x y hF w vals hG hAL
  letI : Ghost := ⟨G, [], none⟩
  have hL := law x
  rw [hF] at hL
  unfold topK at hL
  have hdraw : ∀ L call, EnvOk E L call → DrawOk E L call := draw_ok hmix
  have hloops := hl ⟨rfl, rfl⟩
  have hcall := callN_sound (.inl ⟨rfl, rfl⟩) hlib hdraw (fun n hn hE => hloops n hn hE (hdraw _ _ hE)) 10 (Nat.le_refl _)
  have hEnv : EnvOk E (22 - 2 * 10) (callN E 10) := ⟨.inr (callN_lib 9), hcall, hlib.plain, hlib.clone, hlib.joins⟩
  have H : HR (fun _ => undef) [] w := ⟨fun _ => trivial, fun _ _ _ h => (by cases h), hG, fun _ _ h => (by cases h)⟩
  have hav : ∀ b, Av (fun _ => undef) [] b → G b := fun b hb => hb.elim (fun ⟨_, h, _⟩ => by cases h) id
  have hargs : All2 (VR (fun _ => undef) [] w) (encL p.ts x) vals := AL.VR (hAL.mono hav)
  obtain ⟨h1, h2⟩ := enter_sound hEnv (hdraw _ _ hEnv) (path := []) rfl ⟨rfl, rfl⟩ (fun fn c hf hc => hloops 10 (Nat.le_refl _) hEnv (hdraw _ _ hEnv) [] f fn c rfl hf hc) hL H hargs
  refine ⟨h1, h2.mono fun e w' hw => ?_⟩
  obtain ⟨ν', h', v, u, rfl, g1, g2, g3, g4, g5, g6⟩ := hw
  refine ⟨u, rfl, resH_val g2 _ g1 g6, fun b hb => (g3.keep b hb fun ⟨_, h, _⟩ => by cases h).1, g3.size, g3.os, g3.tape, g3.output⟩
omit [Ghost] in
theorem pure_top {f : Nat} {p : PFun} (E : Env (Val (tyL p.rs))) (hlib : ∀ [Ghost], LibOk E) (hmix : E.P.follows .mixedOrders = true) {tab : List (LEnt (Val (tyL p.rs)))} (hE : E.loops = loopsTab tab) (hok : ∀ x ∈ tab, x.Ok E) (law : pureFun p E f) : PureOk E.P f p :=
  pure_gen E hlib hmix (fun _ n hn hEnv hD path f fn c hp hf hc => loops_ok hE hok hn hEnv hD hp hf hc) law
omit [Ghost] in
theorem pure_topU {f : Nat} {p : PFun} (E E0 : Env (Val (tyL p.rs))) (hlib : ∀ [Ghost], LibOk E) (hlib0 : ∀ [Ghost], LibOk E0) (hP : E0.P = E.P) (hmix : E.P.follows .mixedOrders = true) {tab : List (LEnt (Val (tyL p.rs)))} (h0 : E0.loops = loopsTab tab) (hok : ∀ x ∈ tab, x.Ok E0) {us : List UEnt} (hE : E.loops = loopsU E0 us)
    (hone : ∀ u ∈ us, (((bodyOf E.P u.fid).elim [] (loopsOf 0)).filter fun y => Nat.beq y.1 u.bid).length = 1) (law : pureFun p E f) : PureOk E.P f p :=
  pure_gen E hlib hmix (fun hD0 n hn _ _ path f fn c hp hf hc => loopsU_ok hD0 hlib0 hP (hP ▸ hmix) (fun n hn hEnv hD path f fn c hp hf hc => loops_ok h0 hok hn hEnv hD hp hf hc) hE hone hn hp hf hc) law
omit [Ghost] in
theorem pureFun_of {p : PFun} {E : Env (Val (tyL p.rs))} {f : Nat} (h : ∀ x : Val (tyL p.ts), topK E f (encL p.ts x) (fun h v => bindF (resH p.rs h v) some) = p.F x) : pureFun p E f := fun x => by
  rw [← h x]
  congr 1
  funext h v
  unfold bindF
  cases resH p.rs h v <;> rfl
omit [Ghost] in
theorem allNil {α : Type} {Q : α → Prop} : ∀ x ∈ ([] : List α), Q x := fun _ h => by cases h
omit [Ghost] in
theorem allCons {α : Type} {Q : α → Prop} {a : α} {l : List α} (h : Q a) (hl : ∀ x ∈ l, Q x) : ∀ x ∈ a :: l, Q x := fun x hx => by
  rcases List.mem_cons.1 hx with rfl | hx
  · exact h
  · exact hl x hx
end Go.Am
end
