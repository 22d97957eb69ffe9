/- lemmas: AmField AmMap AmBin AmRow AmOp AmDead AmRun AmCode AmLoop AmMatch AmPure AmCall -/
import Derived.Test.YtfkfjebiaelniaaGreatAmA
import Derived.Laws.StructEq
import Derived.OrdersIn
import Derived.LoopNIn
set_option linter.all false
set_option linter.unusedSectionVars false
set_option linter.unusedVariables false
set_option linter.unusedSimpArgs false
noncomputable section
namespace Go.Am
variable [Ghost]
section
variable {ν ν' : Nat → Value} {h h' : List Blk} {w w' : World} {P : Program}
theorem buildArr_ok {S : St} {a : Act} {t e : TypeId} {n sz : Nat} {ps : Array (Nat × Operand)} {z : AV} {zs cs : List AV} (H : Sim ν S a w) (ht : P.underlying t = some (.array n e)) (hs : szP P e = some sz)
    (hz : ((P.info? t).bind (·.zero)).map cv = some z) (hzs : cellsO z = some zs) (hf : fillArr sz (ps.toList.map fun p => (p.1, ev S.t p.2)) zs = some cs) :
    Does P ν S.h w (Instr.build t (ps.map fun (i, x) => (i, a.eval x))) (.agg cs) S.h := by
  cases hi : P.info? t with
  | none => simp [hi] at hz
  | some i =>
  cases hzo : i.zero with
  | none => simp [hi, hzo] at hz
  | some zv =>
  simp only [hi, hzo, Option.bind_some, Option.map_some, Option.some.injEq] at hz
  subst hz
  have hc := (cv_VR (ν := ν) (h := S.h) (w := w) zv).cells hzs
  obtain ⟨c', h1, h2⟩ := fillArr_ok (ν := ν) (h := S.h) (w := w) (sz := sz) (places := fun j => some (j * sz, sz)) (fun j => rfl) _ _ zs cs zv.cells hf (parts_rel H ps.toList) hc
  refine Does.still H.heap (u := .agg c') ?_ ⟨c', rfl, h2⟩
  have hp : (ps.map fun (x : Nat × Operand) => (x.1, a.eval x.2)).toList = ps.toList.map fun p => (p.1, a.eval p.2) := by simp
  simp only [Instr.build, Sem.run_bind, zeroValue, typeInfo, run_program, Result.andThen_ok, hi, hzo, Sem.run_pure, run_underlying ht, run_szP hs]
  have h1' : Instr.fill (fun j => some (j * sz, sz)) zv.cells (ps.map fun (x : Nat × Operand) => (x.1, a.eval x.2)).toList = some c' := by rw [hp]; exact h1
  erw [h1']
  rfl
theorem part_ok {t : TypeId} {agg : Bool} {n o : Nat} {cs ds : List AV} {v : AV} {us : Array Value} (H : HR ν h w) (hl : ldP P t = some (agg, n)) (hg : getN cs o n = some ds) (hm : mkv agg ds = some v) (hc : All2 (VRc ν h w) cs us.toList) :
    Does P ν h w (part t us o) v h := by
  obtain ⟨d, hd, rfl, hs⟩ := ldP_spec hl
  obtain ⟨h1, h2⟩ := getN_spec hg
  have hds : All2 (VRc ν h w) ds ((us.toList.drop o).take n) := by rw [h1]; exact (hc.drop o).take n
  obtain ⟨h3, h4⟩ := mkv_VR hm hds
  refine Does.still H ?_ h3
  unfold part
  simp only [Sem.run_bind, run_isAgg hd, Result.andThen_ok]
  cases hagg : aggD d with
  | true =>
    simp only [if_true, Sem.run_bind, run_szP hs, Result.andThen_ok, Sem.run_pure, valM]
    congr 2
    apply Array.ext'
    rw [Array.toList_extract, List.extract_eq_take_drop]
    congr 1; omega
  | false =>
    have hn : n = 1 := by rw [← h2]; exact h4 hagg
    subst hn
    simp only [valM]
    cases hu : us.toList.drop o with
    | nil => rw [hu] at hds; have := hds.length; rw [h2] at this; simp at this
    | cons u rest =>
      have hget : us[o]? = some u := by
        have := congrArg (fun l => l[0]?) hu
        simpa using this
      simp [hget]
theorem field_ok {t : TypeId} {f : Nat} {fs : Array Field} {fd : Field} {agg : Bool} {n : Nat} {cs ds : List AV} {v : AV} {ux : Value} (H : HR ν h w) (ht : P.underlying t = some (.struct fs)) (hf : fs[f]? = some fd)
    (hl : ldP P fd.type = some (agg, n)) (hg : getN cs fd.offset n = some ds) (hm : mkv agg ds = some v) (hx : VR ν h w (.agg cs) ux) : Does P ν h w (Instr.field t ux f) v h := by
  obtain ⟨us, rfl, hc⟩ := hx
  obtain ⟨ν', w', u, h1, h2⟩ := part_ok (P := P) H hl hg hm hc
  refine ⟨ν', w', u, ?_, h2⟩
  simp only [Instr.field, Sem.run_bind, run_underlying ht, Result.andThen_ok, hf, asAgg, Sem.run_pure]
  exact h1
theorem indexArr_ok {t e : TypeId} {n m : Nat} {k : IntKind} {j : Int} {agg : Bool} {cs ds : List AV} {v : AV} {ux : Value} (H : HR ν h w) (ht : P.underlying t = some (.array n e))
    (hj : 0 ≤ j ∧ j < n) (hl : ldP P e = some (agg, m)) (hg : getN cs (j.toNat * m) m = some ds) (hm : mkv agg ds = some v) (hx : VR ν h w (.agg cs) ux) : Does P ν h w (Instr.index t ux (.int k j)) v h := by
  obtain ⟨us, rfl, hc⟩ := hx
  obtain ⟨ν', w', u, h1, h2⟩ := part_ok (P := P) H hl hg hm hc
  obtain ⟨d, hd, _, hs⟩ := ldP_spec hl
  refine ⟨ν', w', u, ?_, h2⟩
  simp only [Instr.index, asIntOf, Sem.run_bind, Sem.run_pure, run_underlying ht, Result.andThen_ok, hj, and_self, if_true, run_szP hs]
  exact h1
theorem shift_ok {x v : AV} {ux : Value} {o : Nat} (e : shiftK h x o some = some v) (hx : VR ν h w x ux) : ∃ a, ux = .pointer (some a) ∧ VR ν h w v (.pointer (some (a.add o))) := by
  unfold shiftK at e
  split at e <;> try (cases e; done)
  · cases e
    obtain ⟨cs, b, h1, h2, rfl⟩ := hx
    exact ⟨_, rfl, cs, b, h1, h2, by rw [addr_add]⟩
  · cases e
    obtain ⟨b, o', us, rfl, h1, h2, h3, h4⟩ := hx
    exact ⟨_, rfl, b, o', us, by rw [addr_add, Nat.add_assoc], h1, h2, h3, h4⟩
  · split at e <;> try (cases e; done)
    rename_i t g' fz xs hl
    split at e <;> try (cases e; done)
    rename_i hgg
    cases e
    obtain ⟨ho, t2, g2, fz2, xs2, h1, h2, h3⟩ := hx
    rw [hl] at h1; cases h1
    have hg := eq_of_beq hgg
    subst hg
    obtain ⟨hi, b, o', cap, h4, rfl⟩ := h3 rfl
    exact ⟨_, rfl, by rw [addr_add]; rfl, _, _, _, _, hl, Nat.le_refl _, fun _ => ⟨hi, b, o', cap, h4, by rw [addr_add, Nat.add_assoc]⟩⟩
theorem fieldAddr_ok {t : TypeId} {f : Nat} {fs : Array Field} {fd : Field} {n : Nat} {x v : AV} {ux : Value} (H : HR ν h w) (ht : P.underlying t = some (.struct fs)) (hf : fs[f]? = some fd)
    (hs : szP P fd.type = some (n + 1)) (e : shiftK h x fd.offset some = some v) (hx : VR ν h w x ux) : Does P ν h w (Instr.fieldAt t ux f) v h := by
  obtain ⟨a, rfl, h1⟩ := shift_ok e hx
  refine Does.still H ?_ h1
  simp [Instr.fieldAt, Instr.sureAddr, run_underlying ht, hf, fieldPlace, run_szP hs]
theorem indexArrAddr_ok {t e : TypeId} {n sz id off : Nat} {k : IntKind} {j : Int} {ux : Value} (H : HR ν h w) (ht : P.underlying t = some (.array n e)) (hj : 0 ≤ j ∧ j < n) (hs : szP P e = some sz) (hx : VR ν h w (.box id off) ux) :
    Does P ν h w (Instr.indexAt t ux (.int k j)) (.box id (off + j.toNat * sz)) h := by
  obtain ⟨cs, b, h1, h2, rfl⟩ := hx
  refine Does.still H (u := .pointer (some ⟨b, off + j.toNat * sz, none⟩)) ?_ ⟨cs, b, h1, h2, rfl⟩
  simp [Instr.indexAt, Instr.sureAddr, asIntOf, run_underlying ht, run_szP hs, hj, addr_add]
theorem arK_spec {k : IntKind} {n : Int} {v : AV} (e : arK k n some = some v) : v = .int k (k.wrap n) := by
  unfold arK at e
  cases e
  cases k <;> rfl
theorem minmax_ok {gt : Bool} {f : Value → Value → Sem Value} (hf : ∀ (k : IntKind) (a b : Int), (f (.int k a) (.int k b)).run P w = .ok (.int k (match gt with | true => imax a b | false => imin a b)) w) :
    ∀ (l : List AV) (us : List Value) (x v : AV) (ux : Value), minmaxK gt x l some = some v → VR ν h w x ux → All2 (VR ν h w) l us → ∃ u, (us.foldlM f ux).run P w = .ok u w ∧ VR ν h w v u
  | [], [], x, v, ux, e, hx, _ => by cases e; exact ⟨ux, rfl, hx⟩
  | [], _ :: _, _, _, _, _, _, hu => hu.elim
  | _ :: _, [], _, _, _, _, _, hu => hu.elim
  | y :: l, uy :: us, x, v, ux, e, hx, hu => by
    cases x <;> try (simp [minmaxK] at e; done)
    cases y <;> try (simp [minmaxK] at e; done)
    rename_i k a k' b
    simp only [minmaxK] at e
    split at e <;> try (cases e; done)
    rename_i hk _
    subst hk
    have h1 : ux = .int k a := hx
    have h2 : uy = .int k b := hu.1
    subst h1 h2
    obtain ⟨u, h3, h4⟩ := minmax_ok hf l us _ v _ e (show VR ν h w (.int k _) (.int k _) from rfl) hu.2
    refine ⟨u, ?_, h4⟩
    simp only [List.foldlM_cons, Sem.run_bind, hf, Result.andThen_ok]
    exact h3
end
end Go.Am
end

noncomputable section
namespace Go.Am
variable [Ghost]
section
variable {ν ν' : Nat → Value} {h h' : List Blk} {w w' : World} {P : Program}
theorem keyOk_spec {t : TypeId} {k : Ty} (hk : keyOk P t k = true) :
    (P.underlying t = some .bool ∧ k = .bool) ∨ (∃ i, P.underlying t = some (.int i) ∧ k = .int i) := by
  unfold keyOk at hk
  split at hk <;> try (cases hk; done)
  · split at hk <;> try (cases hk; done)
    exact .inl ⟨‹_›, rfl⟩
  · split at hk <;> try (cases hk; done)
    have := eq_of_beq hk
    subst this
    exact .inr ⟨_, ‹_›, rfl⟩
def keyVal : (k : Ty) → Val k → Value
  | .bool, b => .bool b
  | .int i, n => .int i n
  | .str, s => .string s
  | _, _ => undef
theorem CR.keyVal {av : Nat → Prop} {t : TypeId} {k : Ty} {x : Val k} {v : Value} (hk : keyOk P t k = true) (hc : CR w av k x [v]) : v = keyVal k x := by
  rcases keyOk_spec hk with ⟨_, rfl⟩ | ⟨i, _, rfl⟩
  all_goals
    have : [v] = [_] := hc
    simpa [Am.keyVal] using this
theorem keyVal_CR {av : Nat → Prop} {t : TypeId} {k : Ty} {x : Val k} (hk : keyOk P t k = true) : CR w av k x [keyVal k x] := by
  rcases keyOk_spec hk with ⟨_, rfl⟩ | ⟨i, _, rfl⟩ <;> exact (rfl : [_] = [_])
theorem run_checkKey {t : TypeId} {k : Ty} {x : Val k} {empty : Bool} (hk : keyOk P t k = true) (m : Nat) : (Instr.checkKey empty (m + 1) t (keyVal k x)).run P w = .ok () w := by
  rcases keyOk_spec hk with ⟨h1, rfl⟩ | ⟨i, h1, rfl⟩ <;> simp [Instr.checkKey, run_underlying h1, keyVal]
theorem sameNow_key {t : TypeId} {k : Ty} (hk : keyOk P t k = true) : ∃ d, P.underlying t = some d ∧ ∀ x y : Val k, Instr.sameNow d (keyVal k x) (keyVal k y) = some (keyEq k x y) := by
  rcases keyOk_spec hk with ⟨h1, rfl⟩ | ⟨i, h1, rfl⟩
  · exact ⟨_, h1, fun _ _ => rfl⟩
  · refine ⟨_, h1, fun x y => ?_⟩
    simp only [Instr.sameNow, keyVal, keyEq, if_true]
    congr 1
def Ents (w : World) (av : Nat → Prop) (k v : Ty) (es : List (Val k × Val v)) (entries : List MapEntry) : Prop :=
  All2 (fun (e : Val k × Val v) (m : MapEntry) => m.key = keyVal k e.1 ∧ ∃ us, CR w av v e.2 us ∧ m.val = valOf v us) es entries
theorem findNow_ok {d : TypeDesc} {av : Nat → Prop} {k v : Ty} {x : Val k} (hd : ∀ y, Instr.sameNow d (keyVal k x) (keyVal k y) = some (keyEq k x y)) : ∀ (es : List (Val k × Val v)) (ms : List MapEntry) (i : Nat), Ents w av k v es ms →
    (mget x es = none ∧ Instr.findNow d (keyVal k x) ms i = some none) ∨
    ∃ y j us, mget x es = some y ∧ Instr.findNow d (keyVal k x) ms i = some (some (i + j, valOf v us)) ∧ CR w av v y us ∧ j < es.length ∧ (∀ b, mset x b es = es.set j (x, b)) ∧ ∃ e, es[j]? = some e ∧ keyEq k x e.1 = true
  | [], [], i, _ => .inl ⟨rfl, rfl⟩
  | [], _ :: _, _, hE => hE.elim
  | _ :: _, [], _, hE => hE.elim
  | e :: es, m :: ms, i, hE => by
    obtain ⟨⟨h1, us, h2, h3⟩, hE⟩ := hE
    have hs := hd e.1
    rw [← h1] at hs
    cases hk : keyEq k x e.1 with
    | true =>
      rw [hk] at hs
      exact .inr ⟨e.2, 0, us, by simp [mget, hk], by simp [Instr.findNow, hs, h3], h2, by simp, fun b => by simp [mset, hk], e, rfl, hk⟩
    | false =>
      rw [hk] at hs
      rcases findNow_ok hd es ms (i + 1) hE with ⟨h4, h5⟩ | ⟨y, j, us', h4, h5, h6, h7, h8, e', h9, h10⟩
      · exact .inl ⟨by simp [mget, hk, h4], by simp [Instr.findNow, hs, h5]⟩
      · refine .inr ⟨y, j + 1, us', by simp [mget, hk, h4], by simp [Instr.findNow, hs, h5]; omega, h6, by simp; omega, fun b => by simp [mset, hk, h8], e', by simpa using h9, h10⟩
theorem mset_none {k v : Ty} {x : Val k} {b : Val v} : ∀ {es : List (Val k × Val v)}, mget x es = none → mset x b es = es ++ [(x, b)]
  | [], _ => rfl
  | e :: es, hn => by
    cases hk : keyEq k x e.1 with
    | true => simp [mget, hk] at hn
    | false => simp only [mget, hk] at hn; simp [mset, hk, mset_none hn]
theorem ents (H : HR ν h w) {t : TypeId} {m : AV} {um : Value} {k v : Ty} {es : List (Val k × Val v)} (hk : keyOk P t k = true) (hm : VR ν h w m um) (e : snap1 h m = .mp k v es) :
    ∃ r, um = .map r ∧ ((r = none ∧ es = []) ∨ ∃ b entries clock, r = some b ∧ w.heap[b]? = some (.map entries clock) ∧ Ents w (Av ν h) k v es entries.toList) := by
  have fin : ∀ (entries : Array MapEntry), entries.size = es.length → (∀ (i : Nat) (e : Val k × Val v), es[i]? = some e → ∃ (m : MapEntry) (us : List Value), entries[i]? = some m ∧ CR w (Av ν h) k e.1 [m.key] ∧ CR w (Av ν h) v e.2 us ∧ m.val = valOf v us) →
      Ents w (Av ν h) k v es entries.toList := fun entries hs hE => by
    refine All2.of_get (by simpa using hs.symm) fun i a b ha hb => ?_
    obtain ⟨m, us, h1, h2, h3, h4⟩ := hE i a ha
    have : b = m := by simp at hb; rw [h1] at hb; exact (Option.some.inj hb).symm
    subst this
    exact ⟨CR.keyVal hk h2, us, h3, h4⟩
  cases m with
  | mp k' v' es' =>
    simp only [snap1] at e
    cases e
    obtain ⟨r, h1, h2⟩ := hm
    refine ⟨r, by simpa using h1, ?_⟩
    rcases h2 with h2 | ⟨b, entries, clock, h2, _, h3, h4, h5⟩
    · exact .inl h2
    · exact .inr ⟨b, entries, clock, h2, h3, fin entries h4 h5⟩
  | omp id =>
    obtain ⟨ho, k', v', es', hl, hv⟩ := hm
    simp only [snap1, hl] at e
    cases e
    have hB := H.blk id
    rw [hl] at hB
    obtain ⟨b, entries, clock, h1, h2, h3, h4⟩ := hB
    exact ⟨some b, by rw [hv, h1], .inr ⟨b, entries, clock, rfl, h2, fin entries h3 h4⟩⟩
  | own id g => simp only [snap1] at e; (repeat' split at e) <;> cases e
  | sub id g lo n => simp only [snap1] at e; (repeat' split at e) <;> cases e
  | _ => simp [snap1] at e
theorem unflat_key {t : TypeId} {k : Ty} {i : AV} {ui : Value} {x : Val k} (hk : keyOk P t k = true) (hi : VR ν h w i ui) (e : unflatAll k [i] = some x) : ui = keyVal k x := by
  rcases keyOk_spec hk with ⟨_, rfl⟩ | ⟨j, _, rfl⟩
  · cases i <;> simp [unflatAll, unflat] at e; subst e; exact hi
  · cases i <;> try (simp [unflatAll, unflat] at e; done)
    rename_i j' n
    simp only [unflatAll, unflat] at e
    split at e <;> try (cases e; done)
    rename_i y he
    split at he <;> try (cases he; done)
    rename_i hj _
    subst hj; cases he; cases e; exact hi
def lkRes (ok : Bool) (y : AV) (b : Bool) : Option AV := match ok with | true => some (.tup [y, .bool b]) | false => some y
theorem lookup_ok {t : TypeId} {m i v : AV} {um ui : Value} {ok : Bool} (H : HR ν h w) (e : lookupK P h t m i ok some = some v) (hm : VR ν h w m um) (hi : VR ν h w i ui) : Does P ν h w (Instr.lookup t um ui ok) v h := by
  unfold lookupK at e
  split at e <;> try (cases e; done)
  rename_i kt et ht
  split at e <;> try (cases e; done)
  rename_i k v0 z hkt het hz
  cases hin : P.info? et with
  | none => simp [hin] at hz
  | some info =>
  cases hzo : info.zero with
  | none => simp [hin, hzo] at hz
  | some zv =>
  simp only [hin, hzo, Option.bind_some, Option.map_some, Option.some.injEq] at hz
  subst hz
  -- what the run does, once the search is known
  have run : ∀ (x : Val k) (r : Option Nat) (ms : List MapEntry), keyOk P kt k = true → ui = keyVal k x → um = .map r → (r = none ∧ ms = [] ∨ ∃ b entries clock, r = some b ∧ w.heap[b]? = some (.map entries clock) ∧ entries.toList = ms) →
      ∀ d, P.underlying kt = some d →
      (∀ y j, Instr.findNow d (keyVal k x) ms 0 = some (some (j, y)) → (Instr.lookup t um ui ok).run P w = .ok (if ok then .tuple #[y, .bool true] else y) w) ∧
      (Instr.findNow d (keyVal k x) ms 0 = some none → (Instr.lookup t um ui ok).run P w = .ok (if ok then .tuple #[zv, .bool false] else zv) w) := by
    intro x r ms hk hui hum hr d hd
    subst hui hum
    have hck := fun em => run_checkKey (P := P) (w := w) (x := x) (empty := em) hk 9999
    have hck : ∀ em, (Instr.checkKey em 10000 kt (keyVal k x)).run P w = .ok () w := hck
    rcases hr with ⟨rfl, rfl⟩ | ⟨b, entries, clock, rfl, hb, rfl⟩
    · constructor
      · intro y j hf; simp [Instr.findNow] at hf
      · intro hf
        simp only [Instr.lookup, Sem.run_bind, run_underlying ht, Result.andThen_ok, Sem.run_pure, hck]
        simp [Instr.findKey, run_underlying hd, Instr.findNow, zeroValue, typeInfo, hin, hzo]
    · constructor
      · intro y j hf
        simp only [Instr.lookup, Sem.run_bind, run_underlying ht, Result.andThen_ok, Sem.run_pure, run_getMap hb, hck]
        simp [Instr.findKey, run_underlying hd, hf]
      · intro hf
        simp only [Instr.lookup, Sem.run_bind, run_underlying ht, Result.andThen_ok, Sem.run_pure, run_getMap hb, hck]
        simp [Instr.findKey, run_underlying hd, hf, zeroValue, typeInfo, hin, hzo]
  have vrz : ∀ {V : AV}, lkRes ok (cv zv) false = some V → VR ν h w V (if ok then .tuple #[zv, .bool false] else zv) := fun {V} hV => by
    cases ok with
    | false => cases hV; exact cv_VR zv
    | true =>
      cases hV
      refine ⟨#[zv, .bool false], rfl, ?_, rfl, trivial⟩
      have := cv_VR (ν := ν) (h := h) (w := w) zv
      cases ht : (cv zv).isTup with
      | true => exact absurd ht (by rw [cv_notTup]; simp)
      | false => rwa [VR_eq ht] at this
  split at e <;> try (cases e; done)
  · rename_i k' v' es hk hsn
    split at e <;> try (cases e; done)
    rename_i heq _
    cases heq
    split at e <;> try (cases e; done)
    rename_i x hx
    have hux := unflat_key hk hi hx
    obtain ⟨d, hd, hsame⟩ := sameNow_key (P := P) (t := kt) (k := k) hk
    obtain ⟨r, hum, hr⟩ := ents H hk hm hsn
    have hr' : ∃ ms, Ents w (Av ν h) k v0 es ms ∧ (r = none ∧ ms = [] ∨ ∃ b entries clock, r = some b ∧ w.heap[b]? = some (.map entries clock) ∧ entries.toList = ms) := by
      rcases hr with ⟨rfl, rfl⟩ | ⟨b, entries, clock, rfl, hb, hE⟩
      · exact ⟨[], trivial, .inl ⟨rfl, rfl⟩⟩
      · exact ⟨_, hE, .inr ⟨b, entries, clock, rfl, hb, rfl⟩⟩
    obtain ⟨ms, hE, hms⟩ := hr'
    obtain ⟨r1, r2⟩ := run x r ms hk hux hum hms d hd
    rcases findNow_ok (hsame x) es ms 0 hE with ⟨h4, h5⟩ | ⟨y, j, us, h4, h5, h6, _⟩
    · have e' : (match (mget x es : Option (Val v0)) with | some y => lkRes ok (enc v0 y) true | none => lkRes ok (cv zv) false) = some v := e
      rw [h4] at e'
      exact Does.still H (r2 h5) (vrz e')
    · have e' : (match (mget x es : Option (Val v0)) with | some y => lkRes ok (enc v0 y) true | none => lkRes ok (cv zv) false) = some v := e
      rw [h4] at e'
      refine Does.still H (r1 _ _ h5) ?_
      have hv := enc_VR h6
      cases ok with
      | false => cases e'; exact hv
      | true =>
        cases e'
        refine ⟨#[valOf v0 us, .bool true], rfl, ?_, rfl, trivial⟩
        have ht : (enc v0 y).isTup = false := by cases v0 <;> rfl
        rwa [VR_eq ht] at hv
  · rename_i hk hsn
    split at e <;> try (cases e; done)
    rename_i x hx
    have hux := unflat_key hk hi hx
    obtain ⟨d, hd, hsame⟩ := sameNow_key (P := P) (t := kt) (k := k) hk
    have hum : um = .map none := by
      cases m with
      | nilm => exact hm
      | own id g => simp only [snap1] at hsn; (repeat' split at hsn) <;> cases hsn
      | sub id g lo n => simp only [snap1] at hsn; (repeat' split at hsn) <;> cases hsn
      | omp id => simp only [snap1] at hsn; (repeat' split at hsn) <;> cases hsn
      | _ => simp [snap1] at hsn
    obtain ⟨r1, r2⟩ := run x none [] hk hux hum (.inl ⟨rfl, rfl⟩) d hd
    exact Does.still H (r2 rfl) (vrz e)
theorem snap_cells {x : AV} {cs : List AV} (e : cellsO (snap h x) = some cs) : ∃ vs, cellsO x = some vs ∧ cs = vs.map (snap1 h) := by
  cases x with
  | agg l => simp only [snap, cellsO, Option.some.injEq] at e; exact ⟨l, rfl, e.symm⟩
  | any => cases e
  | und => cases e
  | tup => cases e
  | own id g =>
    refine ⟨_, rfl, ?_⟩
    simp only [snap] at e
    have : snap1 h (.own id g) = .any ∨ ∃ t xs, snap1 h (.own id g) = .slc t xs := by
      simp only [snap1]; (repeat' split) <;> first | exact .inl rfl | exact .inr ⟨_, _, rfl⟩
    rcases this with h1 | ⟨t, xs, h1⟩ <;> rw [h1] at e <;> cases e
    simp [h1]
  | sub id g lo n =>
    refine ⟨_, rfl, ?_⟩
    simp only [snap] at e
    have : snap1 h (.sub id g lo n) = .any ∨ ∃ t xs, snap1 h (.sub id g lo n) = .slc t xs := by
      simp only [snap1]; (repeat' split) <;> first | exact .inl rfl | exact .inr ⟨_, _, rfl⟩
    rcases this with h1 | ⟨t, xs, h1⟩ <;> rw [h1] at e <;> cases e
    simp [h1]
  | omp id =>
    refine ⟨_, rfl, ?_⟩
    simp only [snap] at e
    have : snap1 h (.omp id) = .any ∨ ∃ k v xs, snap1 h (.omp id) = .mp k v xs := by
      simp only [snap1]; (repeat' split) <;> first | exact .inl rfl | exact .inr ⟨_, _, _, rfl⟩
    rcases this with h1 | ⟨k, v, xs, h1⟩ <;> rw [h1] at e <;> cases e
    simp [h1]
  | _ => cases e; exact ⟨_, rfl, rfl⟩
theorem frz1_map {a : AV} {id : Nat} {k v : Ty} {es : List (Val k × Val v)} (hl : lkB h id = .map k v es) : lkB (frz1 h a) id = .map k v es := by
  have key : ∀ (j g : Nat) (t : Ty) (fz : Bool) (xs : List (Val t)), lkB h j = .row t g fz xs → lkB (updB h j (.row t g true xs)) id = .map k v es := fun j g t fz xs hr => by
    by_cases hj : id = j
    · subst hj; rw [hl] at hr; cases hr
    · rw [lkB_updB_ne _ hj]; exact hl
  cases a <;> try exact hl
  all_goals
    simp only [frz1]
    split
    · exact key _ _ _ _ _ ‹_›
    · exact hl
theorem frzL_map {id : Nat} {k v : Ty} {es : List (Val k × Val v)} : ∀ (as : List AV) {h : List Blk}, lkB h id = .map k v es → lkB (frzL h as) id = .map k v es
  | [], _, hl => hl
  | a :: as, _, hl => frzL_map as (frz1_map hl)
theorem keyEq_eq {t : TypeId} {k : Ty} (hk : keyOk P t k = true) {x y : Val k} (e : keyEq k x y = true) : x = y := by
  rcases keyOk_spec hk with ⟨_, rfl⟩ | ⟨j, _, rfl⟩
  · simpa [keyEq] using e
  · simpa [keyEq] using e
theorem sameBits_key {t : TypeId} {k : Ty} (hk : keyOk P t k = true) (x : Val k) (m : Nat) : Instr.sameBits m (keyVal k x) (keyVal k x) = true := by
  rcases keyOk_spec hk with ⟨_, rfl⟩ | ⟨j, _, rfl⟩ <;> simp [Instr.sameBits, keyVal]
theorem All2.set {α β : Type} {R : α → β → Prop} : ∀ {l : List α} {m : List β} (i : Nat) {a : α} {b : β}, All2 R l m → R a b → All2 R (l.set i a) (m.set i b)
  | [], [], _, _, _, _, _ => trivial
  | _ :: _, _ :: _, 0, _, _, h, hr => ⟨hr, h.2⟩
  | _ :: _, _ :: _, i + 1, _, _, h, hr => ⟨h.1, All2.set i h.2 hr⟩
  | [], _ :: _, _, _, _, h, _ => h.elim
  | _ :: _, [], _, _, _, h, _ => h.elim
theorem mapUpdate_ok {t : TypeId} {m i x : AV} {um ui ux : Value} (H : HR ν h w) (e : mapUpdateK P h t m i x some = some h') (hm : VR ν h w m um) (hi : VR ν h w i ui) (hx : VR ν h w x ux) :
    ∃ w', (Instr.mapUpdate t um ui ux).run P w = .ok () w' ∧ HR ν h' w' ∧ Ev h.length ν h w ν h' w' ∧ h'.length = h.length := by
  unfold mapUpdateK at e
  split at e <;> try (cases e; done)
  rename_i kt et ht
  split at e <;> try (cases e; done)
  rename_i id
  split at e <;> try (cases e; done)
  rename_i k v es hl
  split at e <;> try (cases e; done)
  rename_i hc
  simp only [Bool.and_eq_true, beq_iff_eq] at hc
  obtain ⟨hk, hnm, hagg⟩ := hc
  split at e <;> try (cases e; done)
  rename_i a cs ha hcs
  split at e <;> try (cases e; done)
  rename_i b hb
  cases e
  obtain ⟨vs, hvs, rfl⟩ := snap_cells hcs
  obtain ⟨hfe, hfm⟩ := frz_eq hvs h
  have hcx := hx.cells hvs
  have hsn := frzL_snap H (hcx.mono fun _ _ q => q.1) (hfm hnm)
  obtain ⟨e1, H1, hlv⟩ := frzL_ok vs H
  rw [hfe]
  have hl1 := frzL_map vs hl
  have hbc := unflatAll_CR hb hsn
  have hval : ux = valOf v ux.cells.toList := by
    unfold valOf
    rw [← hagg]
    cases x with
    | agg l => obtain ⟨us, rfl, _⟩ := hx; rfl
    | any => cases hvs
    | und => cases hvs
    | tup => cases hvs
    | _ =>
      rw [cells_one ((hx.one rfl rfl).oneCell hvs)]; rfl
  obtain ⟨ho, k2, v2, es2, hl2, hmv⟩ := hm
  rw [hl] at hl2; cases hl2
  have hB := H1.blk id
  rw [hl1] at hB
  obtain ⟨bk, entries, clock, h1, h2, h3, h4⟩ := hB
  rw [hmv, h1]
  have hui := unflat_key hk hi ha
  subst hui
  have hE : Ents w (Av ν (frzL h vs)) k v es entries.toList := by
    obtain ⟨r, q1, q2⟩ := ents H1 (m := .omp id) (um := .map (some bk)) (k := k) (v := v) (es := es) hk ⟨rfl, k, v, es, hl1, h1.symm⟩ (by simp only [snap1, hl1])
    cases q1
    rcases q2 with ⟨q2, _⟩ | ⟨b', en', cl', q2, q3, q4⟩
    · cases q2
    · cases q2
      rw [h2] at q3
      cases q3
      exact q4
  obtain ⟨d, hd, hsame⟩ := sameNow_key (P := P) (t := kt) (k := k) hk
  have hid : id < (frzL h vs).length := lkB_lt hl1 (by simp)
  -- the map with other entries
  have fin : ∀ (entries' : Array MapEntry) (clock' : Nat) (es' : List (Val k × Val v)), Ents w (Av ν (frzL h vs)) k v es' entries'.toList →
      HR ν (updB (frzL h vs) id (.map k v es')) { w with heap := w.heap.setIfInBounds bk (.map entries' clock') } ∧
      Ev (frzL h vs).length ν (frzL h vs) w ν (updB (frzL h vs) id (.map k v es')) { w with heap := w.heap.setIfInBounds bk (.map entries' clock') } := by
    intro entries' clock' es' hE'
    have hlt := heap_lt h2
    have hkeep : ∀ q, q < w.heap.size → ((lkB (frzL h vs) id).live = true → blkNo (ν id) ≠ some q) → ({ w with heap := w.heap.setIfInBounds bk (.map entries' clock') } : World).heap[q]? = w.heap[q]? := fun q _ hq => by
      have : bk ≠ q := fun he => hq (by rw [hl1]; rfl) (by rw [h1, he]; rfl)
      simp [Array.getElem?_setIfInBounds, this]
    have hV : (Blk.map k v es').live = true → ∀ q, blkNo (ν id) = some q → ((lkB (frzL h vs) id).live = true ∧ blkNo (ν id) = some q) ∨ w.heap.size ≤ q := fun _ q hq => .inl ⟨by rw [hl1]; rfl, hq⟩
    have ev := Ev.upd H1 (B := .map k v es') (V := ν id) (w' := { w with heap := w.heap.setIfInBounds bk (.map entries' clock') }) hid rfl rfl rfl (by simp) hkeep hV (by rw [hl1]; exact ⟨⟨es', rfl⟩, setν_self _ _ _⟩)
    have hr := HR.upd H1 hid ev hkeep hV ⟨bk, entries', clock', (setν_self _ _ _).trans h1, by simp [hlt], by simpa using hE'.length.symm, fun j q hj => by
      obtain ⟨m, q1, q2, us, q3, q4⟩ := hE'.get hj
      refine ⟨m, us, by simpa using q1, ?_, CR.keep ev.keepA q3, q4⟩
      rw [q2]; exact keyVal_CR hk⟩
    rw [setν_same] at ev hr
    exact ⟨hr, ev⟩
  have hck : ∀ em, (Instr.checkKey em 10000 kt (keyVal k a)).run P w = .ok () w := fun em => run_checkKey (P := P) (w := w) (x := a) (empty := em) hk 9999
  rcases findNow_ok (hsame a) es entries.toList 0 hE with ⟨h5, h6⟩ | ⟨y, j, us, h5, h6, h7, h8, h9, e', h10, h11⟩
  · rw [mset_none h5]
    obtain ⟨hr, ev⟩ := fin (entries.push { key := keyVal k a, val := ux, born := clock }) (clock + 1) (es ++ [(a, b)]) (by
      rw [Array.toList_push]
      exact All2.append hE ⟨⟨rfl, _, hbc, hval⟩, trivial⟩)
    refine ⟨_, ?_, hr, e1.trans ev (by rw [frzL_length]; exact Nat.le_refl _), by rw [length_updB, frzL_length]⟩
    simp only [Instr.mapUpdate, Sem.run_bind, run_underlying ht, Result.andThen_ok, run_getMap h2, hck]
    simp [Instr.findKey, run_underlying hd, h6, setObj, Sem.run, h2]
  · rw [h9]
    obtain ⟨m, q1, q2, us', q3, q4⟩ := hE.get h10
    have q1' : entries[j]? = some m := by simpa using q1
    obtain ⟨hr, ev⟩ := fin (entries.modify j fun e => { e with key := keyVal k a, val := ux }) clock (es.set j (a, b)) (by
      rw [Array.toList_modify]
      have : (entries.toList.modify j fun e => { e with key := keyVal k a, val := ux }) = entries.toList.set j { m with key := keyVal k a, val := ux } := by
        apply List.ext_getElem?
        intro q
        rw [List.getElem?_modify, List.getElem?_set]
        by_cases hq : j = q
        · subst hq
          have hlt := (List.getElem?_eq_some_iff.1 q1).1
          simp only [if_true, q1, hlt]
          rfl
        · simp [hq]
      rw [this]
      exact All2.set j hE ⟨rfl, _, hbc, hval⟩)
    refine ⟨_, ?_, hr, e1.trans ev (by rw [frzL_length]; exact Nat.le_refl _), by rw [length_updB, frzL_length]⟩
    have hkey : m.key = keyVal k a := by rw [q2, ← keyEq_eq hk h11]
    simp only [Instr.mapUpdate, Sem.run_bind, run_underlying ht, Result.andThen_ok, run_getMap h2, hck]
    simp only [Nat.zero_add] at h6
    have hsb : Instr.sameBits 10000 (keyVal k a) (keyVal k a) = true := sameBits_key hk a 10000
    simp [Instr.findKey, run_underlying hd, h6, q1', hkey, Instr.keyThatStays, hsb, setObj, Sem.run, h2]
end
end Go.Am
end

noncomputable section
namespace Go.Am
variable [Ghost]
section
variable {ν ν' : Nat → Value} {h h' : List Blk} {w w' : World} {P : Program}
theorem run_part {t : TypeId} {n o : Nat} {d : TypeDesc} (hd : P.underlying t = some d) (hs : szP P t = some n) (us : Array Value) (h1 : aggD d = false → n = 1) (hl : o + n ≤ us.size) :
    (part t us o).run P w = .ok (valM (aggD d) ((us.toList.drop o).take n)) w := by
  unfold part
  simp only [Sem.run_bind, run_isAgg hd, Result.andThen_ok]
  cases hagg : aggD d with
  | true =>
    simp only [if_true, Sem.run_bind, run_szP hs, Result.andThen_ok, Sem.run_pure, valM]
    congr 2
    apply Array.ext'
    rw [Array.toList_extract, List.extract_eq_take_drop]
    congr 1; omega
  | false =>
    have hn := h1 hagg
    subst hn
    have hlt : o < us.size := by omega
    have hget : us[o]? = some us[o] := by simp [hlt]
    have hdr : us.toList.drop o = us[o] :: us.toList.drop (o + 1) := by
      rw [List.drop_eq_getElem_cons (by simpa using hlt)]; simp
    simp [hget, valM, hdr]
theorem eqAt_ok : ∀ (n d : Nat) (t : TypeId) (cs ds : List AV) (rest : Option Bool) (r : Bool), n ≤ d → eqAt P n t cs ds rest = some r →
    ∃ e r', rest = some r' ∧ r = (e && r') ∧ ∃ D, P.underlying t = some D ∧ (aggD D = false → cs.length = 1) ∧ ∀ us ws, All2 (VRc ν h w) cs us → All2 (VRc ν h w) ds ws → (Op.equalIn d t (valM (aggD D) us) (valM (aggD D) ws)).run P w = .ok e w := by
  intro n
  induction n with
  | zero => intro d t cs ds rest r _ e; cases e
  | succ n ih =>
    intro d t cs ds rest r hnd e
    obtain ⟨d, rfl⟩ : ∃ d', d = d' + 1 := ⟨d - 1, by omega⟩
    unfold eqAt at e
    split at e <;> try (cases e; done)
    · rename_i hu
      split at e <;> try (cases e; done)
      rename_i a b
      split at e <;> try (cases e; done)
      rename_i r'
      cases e
      refine ⟨_, r', rfl, rfl, _, hu, fun _ => rfl, fun us ws h1 h2 => ?_⟩
      obtain ⟨u, rfl, g1⟩ := h1.one
      obtain ⟨v, rfl, g2⟩ := h2.one
      have e1 : u = .bool a := g1.1
      have e2 : v = .bool b := g2.1
      subst e1 e2
      exact run_equalIn_bool' w d t a b hu
    · rename_i i hu
      split at e <;> try (cases e; done)
      rename_i k a k' b
      split at e <;> try (cases e; done)
      rename_i hk _
      subst hk
      split at e <;> try (cases e; done)
      rename_i r'
      cases e
      refine ⟨_, r', rfl, rfl, _, hu, fun _ => rfl, fun us ws h1 h2 => ?_⟩
      obtain ⟨u, rfl, g1⟩ := h1.one
      obtain ⟨v, rfl, g2⟩ := h2.one
      have e1 : u = .int k a := g1.1
      have e2 : v = .int k b := g2.1
      subst e1 e2
      have := run_equalIn_int w d t k i a b hu
      rw [show (a == b) = decide (a = b) from by by_cases hab : a = b <;> simp [hab]] at this
      exact this
    · rename_i fs hu
      split at e <;> try (cases e; done)
      rename_i hst
      have key : ∀ (l : List Field) (r : Bool), eqFs P (eqAt P n) cs ds l rest = some r → ∃ e r', rest = some r' ∧ r = (e && r') ∧ ∀ us ws : Array Value, All2 (VRc ν h w) cs us.toList → All2 (VRc ν h w) ds ws.toList → (Op.eqFields d us ws l).run P w = .ok e w := by
        intro l
        induction l with
        | nil => intro r e; exact ⟨true, r, e, by simp, fun us ws _ _ => rfl⟩
        | cons f l ihl =>
          intro r e
          unfold eqFs at e
          split at e
          · rename_i hnm
            obtain ⟨e', r', h1, h2, h3⟩ := ihl r e
            refine ⟨e', r', h1, h2, fun us ws q1 q2 => ?_⟩
            have : ¬ (f.name ≠ "_") := by simpa using hnm
            simp only [Op.eqFields, if_neg this]
            exact h3 us ws q1 q2
          · rename_i hnm
            split at e <;> try (cases e; done)
            rename_i m hm
            split at e <;> try (cases e; done)
            rename_i x y hx hy
            obtain ⟨e1, r1, h1, h2, D, hD, hag, h3⟩ := ih d f.type x y _ r (by omega) e
            obtain ⟨e2, r2, h4, h5, h6⟩ := ihl r1 h1
            refine ⟨e1 && e2, r2, h4, by rw [h2, h5, Bool.and_assoc], fun us ws q1 q2 => ?_⟩
            obtain ⟨g1, g2⟩ := getN_spec hx
            obtain ⟨g3, g4⟩ := getN_spec hy
            have hnn : f.name ≠ "_" := by simpa using hnm
            have fit : ∀ {l : List AV} {us : Array Value} {z : List AV}, All2 (VRc ν h w) l us.toList → z = (l.drop f.offset).take m → z.length = m → f.offset + m ≤ us.size ∨ m = 0 := fun {l us z} q e1 e2 => by
              have := q.length
              rw [e1] at e2
              simp at e2 this
              omega
            have hm1 : aggD D = false → m = 1 := fun hf => by rw [← g2]; exact hag hf
            have rp : ∀ {l : List AV} {us : Array Value} {z : List AV}, All2 (VRc ν h w) l us.toList → z = (l.drop f.offset).take m → z.length = m → (part f.type us f.offset).run P w = .ok (valM (aggD D) ((us.toList.drop f.offset).take m)) w := fun {l us z} q e1 e2 => by
              rcases fit q e1 e2 with hf | hf
              · exact run_part hD hm us hm1 hf
              · subst hf
                have hagg : aggD D = true := by cases hq : aggD D with
                  | true => rfl
                  | false => exact absurd (hm1 hq) (by simp)
                unfold part
                simp only [Sem.run_bind, run_isAgg hD, Result.andThen_ok, hagg, if_true, run_szP hm, Sem.run_pure, valM]
                congr 2
                apply Array.ext'
                simp
            have p1 := rp q1 g1 g2
            have p2 := rp q2 g3 g4
            have h3' := h3 ((us.toList.drop f.offset).take m) ((ws.toList.drop f.offset).take m) (by rw [g1]; exact (q1.drop _).take _) (by rw [g3]; exact (q2.drop _).take _)
            have h6' := h6 us ws q1 q2
            simp only [Op.eqFields, if_pos hnn, Sem.run_bind, p1, p2, Result.andThen_ok, h3']
            cases e1 with
            | true => simp [h6']
            | false => simp
      obtain ⟨e', r', h1, h2, h3⟩ := key _ r e
      refine ⟨e', r', h1, h2, _, hu, fun hf => by simp [aggD] at hf, fun us ws q1 q2 => ?_⟩
      have hf : P.fieldsOf t = fs := by simp [Program.fieldsOf, hu]
      show (Op.equalIn (d + 1) t (.agg us.toArray) (.agg ws.toArray)).run P w = _
      rw [run_equalIn_struct w d t _ _ (by rw [hf]; exact hu) hst, hf]
      exact h3 us.toArray ws.toArray (by simpa using q1) (by simpa using q2)
theorem binop_ok {op : BinOp} {t : TypeId} {x y v : AV} {ux uy : Value} (X Y : Operand) (H : HR ν h w) (e : binK P op t x y some = some v) (hx : VR ν h w x ux) (hy : VR ν h w y uy) :
    Does P ν h w (do eqGuard op t X Y ux uy; binOp op t ux uy) v h := by
  unfold binK at e
  split at e
  · rename_i k a k' b
    have h1 : ux = .int k a := hx
    have h2 : uy = .int k' b := hy
    subst h1 h2
    split at e <;> try (cases e; done)
    rename_i hk _
    subst hk
    have hg : (eqGuard op t X Y (.int k a) (.int k b)).run P w = .ok () w := by cases op <;> simp [eqGuard]
    split at e
    · rename_i r hr
      cases e
      refine Does.still H (u := .bool r) ?_ rfl
      rw [Sem.run_bind, hg, Result.andThen_ok]
      cases op <;> simp only [cmpI, reduceCtorEq, Option.some.injEq] at hr <;> subst hr <;> simp [binOp, Op.intCmp]
    · split at e
      · rename_i r hr
        rw [arK_spec e]
        refine Does.still H (u := .int k (k.wrap r)) ?_ rfl
        rw [Sem.run_bind, hg, Result.andThen_ok]
        cases op <;> simp only [arI, reduceCtorEq, Option.some.injEq] at hr <;> subst hr <;> simp [binOp, Op.intArith]
      · split at e <;> try (cases e; done)
        · split at e <;> try (cases e; done)
          rename_i hb
          have hb : ¬ b = 0 := by simpa using hb
          rw [arK_spec e]
          refine Does.still H (u := .int k (k.wrap (a.tdiv b))) ?_ rfl
          rw [Sem.run_bind, hg, Result.andThen_ok]
          simp [binOp, Op.intDiv, hb]
        · split at e <;> try (cases e; done)
          rename_i hb
          have hb : ¬ b = 0 := by simpa using hb
          cases e
          refine Does.still H (u := .int k (a.tmod b)) ?_ rfl
          rw [Sem.run_bind, hg, Result.andThen_ok]
          simp [binOp, Op.intDiv, hb]
  · rename_i a b
    have h1 : ux = .bool a := hx
    have h2 : uy = .bool b := hy
    subst h1 h2
    split at e <;> try (cases e; done)
    rename_i hu
    have hg : (eqGuard op t X Y (.bool a) (.bool b)).run P w = .ok () w := by cases op <;> simp [eqGuard]
    have he : (Op.equalIn 10000 t (.bool a) (.bool b)).run P w = .ok (a == b) w := run_equalIn_bool' w 9999 t a b hu
    split at e <;> try (cases e; done)
    · cases e
      refine Does.still H (u := .bool (a == b)) ?_ rfl
      rw [Sem.run_bind, hg, Result.andThen_ok]
      simp [binOp, Op.equal, Op.maxDepth, he]
    · cases e
      refine Does.still H (u := .bool (!(a == b))) ?_ rfl
      rw [Sem.run_bind, hg, Result.andThen_ok]
      simp [binOp, Op.equal, Op.maxDepth, he]
  · rename_i a b
    have h1 : ux = .string a := hx
    have h2 : uy = .string b := hy
    subst h1 h2
    have hg : (eqGuard op t X Y (.string a) (.string b)).run P w = .ok () w := by cases op <;> simp [eqGuard]
    split at e <;> try (cases e; done)
    · cases e
      refine Does.still H (u := .bool (a.toList == b.toList)) ?_ rfl
      rw [Sem.run_bind, hg, Result.andThen_ok]
      simp [binOp, Op.stringOp]
    · cases e
      refine Does.still H (u := .bool (!(a.toList == b.toList))) ?_ rfl
      rw [Sem.run_bind, hg, Result.andThen_ok]
      simp [binOp, Op.stringOp]
  · rename_i cs ds
    obtain ⟨us, rfl, h1⟩ := hx
    obtain ⟨ws, rfl, h2⟩ := hy
    split at e <;> try (cases e; done)
    rename_i fs hst
    split at e <;> try (cases e; done)
    rename_i hgt
    split at e <;> try (cases e; done)
    rename_i r hr
    obtain ⟨e', r', h3, h4, D, hD, hag, h5⟩ := eqAt_ok (ν := ν) (h := h) (w := w) 8 10000 t cs ds _ r (by omega) hr
    cases h3
    rw [Bool.and_true] at h4
    subst h4
    have h6 := h5 us.toList ws.toList h1 h2
    have hagg : aggD D = true := by rw [hst] at hD; cases hD; rfl
    rw [hagg] at h6
    have h6 : (Op.equalIn 10000 t (.agg us) (.agg ws)).run P w = .ok r w := by simpa [valM] using h6
    split at e <;> try (cases e; done)
    · cases e
      refine Does.still H (u := .bool r) ?_ rfl
      rw [Sem.run_bind, run_eqGuard_agg w _ t X Y us ws hgt, Result.andThen_ok, run_eql_struct, h6]; rfl
    · cases e
      refine Does.still H (u := .bool (!r)) ?_ rfl
      rw [Sem.run_bind, run_eqGuard_agg w _ t X Y us ws hgt, Result.andThen_ok, run_neq_struct, h6]; rfl
  · cases e
theorem unop_ok {op : UnOp} {x v : AV} {ux : Value} (H : HR ν h w) (hx : VR ν h w x ux)
    (e : (match op, x with | .not, .bool b => some (AV.bool (!b)) | .neg, .int k n => arK k (0 - n) some | _, _ => none) = some v) : Does P ν h w (Op.unary op ux) v h := by
  split at e <;> try (cases e; done)
  · cases e
    rename_i b hx
    have : ux = .bool b := hx
    subst this
    exact Does.still H rfl rfl
  · rename_i k n hx
    have : ux = .int k n := hx
    subst this
    rw [arK_spec e]
    exact Does.still H (u := .int k (k.wrap (0 - n))) rfl rfl
end
end Go.Am
end

noncomputable section
namespace Go.Am
variable [Ghost]
section
variable {ν ν' : Nat → Value} {h h' : List Blk} {w w' : World} {P : Program}
theorem snap1_frzL (b : AV) : ∀ (as : List AV) (h : List Blk), snap1 (frzL h as) b = snap1 h b
  | [], _ => rfl
  | a :: as, h => by rw [frzL, snap1_frzL b as, snap1_frz1]
theorem RowIn.mono {av av' : Nat → Prop} (hm : ∀ b, av' b → av b) {t : Ty} {xs : List (Val t)} {news : List Value} (hr : RowIn w av t xs news) : RowIn w av' t xs news :=
  ⟨hr.1, fun i x hi => CR.mono hm (hr.2 i x hi)⟩
theorem frzA_length : ∀ (ps : List (Nat × AV)) (h : List Blk), (∀ p ∈ ps, ∃ vs, cellsO p.2 = some vs) → (frzA h ps).length = h.length
  | [], _, _ => rfl
  | (i, v) :: ps, h, hp => by
    obtain ⟨vs, hvs⟩ := hp (i, v) (by simp)
    rw [frzA, frzA_length ps _ (fun p hm => hp p (by simp [hm])), (frz_eq hvs h).1, frzL_length]
theorem frz1_dead {a : AV} {id : Nat} {h : List Blk} (hl : lkB h id = .dead) : lkB (frz1 h a) id = .dead := by
  have key : ∀ (j g : Nat) (t : Ty) (fz : Bool) (xs : List (Val t)), lkB h j = .row t g fz xs → lkB (updB h j (.row t g true xs)) id = .dead := fun j g t fz xs hr => by
    by_cases hj : id = j
    · subst hj; rw [hl] at hr; cases hr
    · rw [lkB_updB_ne _ hj]; exact hl
  cases a <;> try exact hl
  all_goals
    simp only [frz1]
    split
    · exact key _ _ _ _ _ ‹_›
    · exact hl
theorem frzL_dead {id : Nat} : ∀ (as : List AV) {h : List Blk}, lkB h id = .dead → lkB (frzL h as) id = .dead
  | [], _, hl => hl
  | _ :: as, _, hl => frzL_dead as (frz1_dead hl)
theorem frz_dead {v : AV} {id : Nat} {h : List Blk} (hl : lkB h id = .dead) : lkB (frz h v) id = .dead := by
  unfold frz; split
  · exact frzL_dead _ hl
  · exact frz1_dead hl
theorem frzA_dead {id : Nat} : ∀ (ps : List (Nat × AV)) {h : List Blk}, lkB h id = .dead → lkB (frzA h ps) id = .dead
  | [], _, hl => hl
  | (_, _) :: ps, _, hl => frzA_dead ps (frz_dead hl)
theorem rowOf_ok {h0 : List Blk} {ty : Ty} : ∀ (ps : List (Nat × AV)) (us : List (Nat × Value)) (k : Nat) (c : Array Value) (xs : List (Val ty)) (h : List Blk), (∀ b, snap1 h b = snap1 h0 b) → HR ν h w → rowOf h0 ty k ps = some xs →
    All2 (fun (a : Nat × AV) (b : Nat × Value) => a.1 = b.1 ∧ VR ν h w a.2 b.2) ps us → (k + ps.length) * ty.size ≤ c.size →
    ∃ c' news, Instr.fill (fun i => some (i * ty.size, ty.size)) c us = some c' ∧ c'.toList = c.toList.take (k * ty.size) ++ news ++ c.toList.drop ((k + ps.length) * ty.size) ∧ RowIn w (Av ν (frzA h ps)) ty xs news ∧ xs.length = ps.length ∧
      Ev h.length ν h w ν (frzA h ps) w ∧ HR ν (frzA h ps) w ∧ (∀ b, Av ν (frzA h ps) b → Av ν h b) ∧ (frzA h ps).length = h.length
  | [], [], k, c, xs, h, hsn, H, e, _, _ => by
    cases e
    exact ⟨c, [], rfl, by simp, ⟨by simp, fun i x hi => by simp at hi⟩, rfl, Ev.refl _ _ _ _, H, fun _ hb => hb, rfl⟩
  | [], _ :: _, _, _, _, _, _, _, _, hu, _ => hu.elim
  | _ :: _, [], _, _, _, _, _, _, _, hu, _ => hu.elim
  | (i, v) :: ps, (j, u) :: us, k, c, xs, h, hsn, H, e, hu, hc => by
    obtain ⟨⟨hij, hvu⟩, hu⟩ := hu
    simp only at hij hvu; subst hij
    simp only [rowOf] at e
    split at e <;> try (cases e; done)
    rename_i hik
    simp only [Bool.and_eq_true, beq_iff_eq] at hik
    obtain ⟨rfl, hnm⟩ := hik
    split at e <;> try (cases e; done)
    rename_i cs hcs
    split at e <;> try (cases e; done)
    rename_i x hx
    split at e <;> try (cases e; done)
    rename_i xs' hxs
    cases e
    obtain ⟨vs, hvs, rfl⟩ := snap_cells hcs
    obtain ⟨hfe, hfm⟩ := frz_eq hvs h
    have hcx := hvu.cells hvs
    have hs := frzL_snap H (hcx.mono fun _ _ q => q.1) (hfm hnm)
    have hmap : vs.map (snap1 h) = vs.map (snap1 h0) := List.map_congr_left fun b _ => hsn b
    rw [hmap] at hs
    have hxc := unflatAll_CR hx hs
    obtain ⟨e1, H1, hlv⟩ := frzL_ok vs H
    simp only [frzA, hfe]
    have hsz : u.cells.size = ty.size := by have := hxc.length; simpa using this
    have hlen : (i + 1 + ps.length) * ty.size ≤ c.size := by rw [show i + 1 + ps.length = i + (ps.length + 1) by omega]; simpa using hc
    have hi : i * ty.size + ty.size ≤ c.size := by
      have := Nat.mul_le_mul_right ty.size (show i + 1 ≤ i + 1 + ps.length by omega)
      rw [Nat.add_mul i 1, Nat.one_mul] at this
      omega
    have hcl : u.cells.toList.length = ty.size := by simpa using hsz
    have hcsz : (c.toList.take (i * ty.size) ++ u.cells.toList ++ c.toList.drop (i * ty.size + ty.size)).toArray.size = c.size := by
      simp only [List.size_toArray, List.length_append, List.length_take, List.length_drop, Array.length_toList, hcl]; omega
    obtain ⟨c', news, h1, h2, h3, h4, h5, h6, h7, h8⟩ := rowOf_ok ps us (i + 1) (c.toList.take (i * ty.size) ++ u.cells.toList ++ c.toList.drop (i * ty.size + ty.size)).toArray xs' (frzL h vs)
      (fun b => (snap1_frzL b vs h).trans (hsn b)) H1 hxs (hu.mono fun _ _ q => ⟨q.1, q.2.ev e1⟩) (by rw [hcsz]; exact hlen)
    refine ⟨c', u.cells.toList ++ news, ?_, ?_, ?_, by simp [h4], e1.trans h5 (by rw [frzL_length]; exact Nat.le_refl _), h6, fun b hb => hlv b (h7 b hb), by rw [h8, frzL_length]⟩
    · rw [fill_cons rfl hsz hi]; exact h1
    · rw [h2]
      have a1 : (c.toList.take (i * ty.size) ++ u.cells.toList ++ c.toList.drop (i * ty.size + ty.size)).take ((i + 1) * ty.size) = c.toList.take (i * ty.size) ++ u.cells.toList := by
        have hl1 : (c.toList.take (i * ty.size) ++ u.cells.toList).length = (i + 1) * ty.size := by
          rw [List.length_append, List.length_take, Array.length_toList, hcl, Nat.add_mul, Nat.one_mul]; omega
        rw [← hl1, List.take_left]
      have a2 : (c.toList.take (i * ty.size) ++ u.cells.toList ++ c.toList.drop (i * ty.size + ty.size)).drop ((i + 1 + ps.length) * ty.size) = c.toList.drop ((i + (ps.length + 1)) * ty.size) := by
        have hl1 : (c.toList.take (i * ty.size) ++ u.cells.toList).length = i * ty.size + ty.size := by
          rw [List.length_append, List.length_take, Array.length_toList, hcl]; omega
        rw [show (i + 1 + ps.length) * ty.size = (c.toList.take (i * ty.size) ++ u.cells.toList).length + ps.length * ty.size by rw [hl1, Nat.add_mul, Nat.add_mul, Nat.one_mul], ← List.drop_drop, List.drop_left, List.drop_drop]
        congr 1
        rw [Nat.add_mul, Nat.add_mul, Nat.one_mul]; omega
      show (List.take ((i + 1) * ty.size) _ ++ news ++ List.drop ((i + 1 + ps.length) * ty.size) _) = _
      rw [a1, a2]
      simp
    · have hone : RowIn w (Av ν (frzA (frzL h vs) ps)) ty [x] u.cells.toList := ⟨by simp [hsz], fun q y hq => by
        cases q with
        | zero =>
          simp at hq; subst hq
          simp only [Nat.zero_mul, List.drop_zero]
          rw [List.take_of_length_le (by omega)]
          exact CR.mono h7 hxc
        | succ q => simp at hq⟩
      exact hone.append h3
theorem buildSlice_ok {S : St} {a : Act} {nid n : Nat} {t e : TypeId} {ty : Ty} {ps : Array (Nat × Operand)} {xs : List (Val ty)} (H : Sim ν S a w) (hn : nid < S.h.length) (hd : lkB S.h nid = .dead) (he : elemP P t = some e)
    (hrow : rowOk P e ty.size = true) (hln : ps.toList.length = n) (hlim : n * ty.size ≤ 65536) (hx : rowOf S.h ty 0 (ps.toList.map fun p => (p.1, ev S.t p.2)) = some xs) :
    Does P ν S.h w (Instr.buildSlice t n (ps.map fun (i, x) => (i, a.eval x))) (.own nid 0) (updB (frzA S.h (ps.toList.map fun p => (p.1, ev S.t p.2))) nid (.row ty 0 false xs)) := by
  obtain ⟨i, z, hi, hsz, hpos, hby, hz, hzs⟩ := rowOk_spec hrow
  have ht := elemP_spec he
  have hcs : ((Array.range (n * ty.size)).map (fun j => (if n * ty.size = 0 then (#[] : Array Value) else z.cells)[j % (if n * ty.size = 0 then (#[] : Array Value) else z.cells).size]!)).size = n * ty.size := by simp
  obtain ⟨c', news, h1, h2, h3, h4, h5, h6, h7, h8⟩ := rowOf_ok (ν := ν) (w := w) (h0 := S.h) _ (ps.toList.map fun p => (p.1, a.eval p.2)) 0 ((Array.range (n * ty.size)).map (fun j => (if n * ty.size = 0 then (#[] : Array Value) else z.cells)[j % (if n * ty.size = 0 then (#[] : Array Value) else z.cells).size]!)) xs S.h (fun _ => rfl) H.heap hx (parts_rel H ps.toList)
    (by rw [hcs]; simp only [List.length_map]; rw [hln, Nat.zero_add]; exact Nat.le_refl _)
  rw [List.length_map, hln] at h2 h4
  have h2' : c'.toList = news := by
    rw [h2]
    simp
  have hd' : lkB (frzA S.h (ps.toList.map fun p => (p.1, ev S.t p.2))) nid = .dead := frzA_dead _ hd
  have hnew := row_new (w' := w.alloc (.cells c' e)) h6 (id := nid) (g' := 0) (xs' := xs) (cap' := n) (by rw [h8]; exact hn) (fun V => by rw [hd']; trivial) rfl rfl rfl rfl (by omega) (by
    have : c'.size = news.length := by rw [← h2']; simp
    rw [this, h3.1, h4]; exact Nat.le_refl _) h3 (fun j v hj => by rw [← h2'] at hj; simpa using hj)
  rw [h4] at hnew
  refine ⟨_, _, _, ?_, own_VR (by rw [h8]; exact hn) rfl, hnew.2, (h5.trans hnew.1 (by rw [h8]; exact Nat.le_refl _)), by rw [length_updB, h8]⟩
  have hp : (ps.map fun (x : Nat × Operand) => (x.1, a.eval x.2)).toList = ps.toList.map fun p => (p.1, a.eval p.2) := by simp
  have hlt : ¬ (16777216 < n * ty.size) := by omega
  have h1' : Instr.fill (fun i => some (i * ty.size, ty.size)) ((Array.range (n * ty.size)).map (fun j => (if n * ty.size = 0 then (#[] : Array Value) else z.cells)[j % (if n * ty.size = 0 then (#[] : Array Value) else z.cells).size]!)) (ps.map fun (x : Nat × Operand) => (x.1, a.eval x.2)).toList = some c' := by rw [hp]; exact h1
  simp only [Instr.buildSlice, Sem.run_bind, run_underlying ht, Result.andThen_ok, sizeOf, typeInfo, run_program, hi, Sem.run_pure, hsz]
  rw [show (2 : Nat) ^ 24 = 16777216 from rfl, if_neg (by omega : ¬ n * ty.size > 16777216)]
  by_cases h0 : n * ty.size = 0
  · simp only [h0, if_true, Sem.run_bind, Sem.run_pure, Result.andThen_ok] at h1' ⊢
    erw [h1']
    simp [newRow]
  · simp only [h0, if_false, Sem.run_bind, zeroValue, typeInfo, run_program, hi, hz, Sem.run_pure, Result.andThen_ok] at h1' ⊢
    erw [h1']
    simp [newRow]
end
end Go.Am
end

noncomputable section
namespace Go.Am
variable [Ghost]
section
variable {ν ν' : Nat → Value} {w w' : World} {P : Program}
def Step (ν : Nat → Value) (S : St) (w : World) (r : Result Next) (v : AV) (S' : St) : Prop :=
  ∃ ν' w' u, (r = .ok (.value u) w' ∨ (r = .ok .skip w' ∧ u = undef)) ∧ VR ν' S'.h w' v u ∧ HR ν' S'.h w' ∧ Ev S.h.length ν S.h w ν' S'.h w' ∧ S'.h.length = S.h.length ∧ S'.t = S.t
theorem Does.step {S : St} {x : Sem Value} {v : AV} {h' : List Blk} (hd : Does P ν S.h w x v h') :
    Step ν S w ((do let u ← x; pure (.value u) : Sem Next).run P w) v { t := S.t, h := h' } := by
  obtain ⟨ν', w', u, h1, h2, h3, h4, h5⟩ := hd
  refine ⟨ν', w', u, .inl ?_, h2, h3, h4, h5, rfl⟩
  simp [h1]
theorem Step.still {S : St} {r : Result Next} {v : AV} {u : Value} (H : HR ν S.h w) (hr : r = .ok (.value u) w) (hv : VR ν S.h w v u) : Step ν S w r v S :=
  ⟨ν, w, u, .inl hr, hv, H, Ev.refl _ _ _ _, rfl, rfl⟩
theorem unit_step {S : St} {x : Sem Unit} {h' : List Blk} (hd : ∃ w', x.run P w = .ok () w' ∧ HR ν h' w' ∧ Ev S.h.length ν S.h w ν h' w' ∧ h'.length = S.h.length) :
    Step ν S w ((do x; pure .skip : Sem Next).run P w) .any { t := S.t, h := h' } := by
  obtain ⟨w', h1, h3, h4, h5⟩ := hd
  refine ⟨ν, w', undef, .inr ⟨?_, rfl⟩, trivial, h3, h4, h5, rfl⟩
  simp [h1]
theorem isV0_VR {a : AV} {v : Value} {h : List Blk} (hi : isV0 a = true) (hv : VR ν h w a v) : VR0 ν h w a v := by
  have h1 : a.isFn = false := by cases a <;> first | rfl | cases hi
  have h2 : a.isAgg = false := by cases a <;> first | rfl | cases hi
  have h3 : a.isTup = false := by cases a <;> first | rfl | cases hi
  rwa [VR_eq h3, VR2_eq h2, VR1_eq h1] at hv
theorem All2.of_map {α β γ : Type} {R : β → γ → Prop} {f : α → β} {g : α → γ} : ∀ {l : List α}, (∀ x ∈ l, R (f x) (g x)) → All2 R (l.map f) (l.map g)
  | [], _ => trivial
  | x :: l, h => ⟨h x (by simp), All2.of_map fun y hy => h y (by simp [hy])⟩
theorem All2.getO {α β : Type} {R : α → β → Prop} {l : List α} {m : List β} (h : All2 R l m) {i : Nat} {a : α} (e : l[i]? = some a) : ∃ b, m[i]? = some b ∧ R a b := h.get e
theorem run_max2 (k : IntKind) (a b : Int) : (Builtin.max2 (.int k a) (.int k b)).run P w = .ok (.int k (imax a b)) w := rfl
theorem run_min2 (k : IntKind) (a b : Int) : (Builtin.min2 (.int k a) (.int k b)).run P w = .ok (.int k (imin a b)) w := rfl
theorem same_eval {S : St} {a : Act} {x y : Operand} (h : sameOperand x y = true) : a.eval x = a.eval y := by
  unfold sameOperand at h
  split at h
  · have := eq_of_beq h; subst this; rfl
  · have := of_decide_eq_true h; subst this; rfl
  · cases h
theorem bindS {α β : Type} {x : Option α} {f : α → Option β} {r : β} (h : x.bind f = some r) : ∃ a, x = some a ∧ f a = some r := by
  cases x with
  | none => cases h
  | some a => exact ⟨a, rfl, h⟩
theorem arr1 {α : Type} {a : Array α} {x : α} (h : a.toList = [x]) : a = #[x] := Array.ext' (by simpa using h)
theorem arr2 {α : Type} {a : Array α} {x y : α} (h : a.toList = [x, y]) : a = #[x, y] := Array.ext' (by simpa using h)
theorem run_builtin {S : St} {a : Act} {o : Oper} {b : Builtin} {args : Array Operand} {tys : Array TypeId} {f : Array TypeId → TypeId → Array Value → Sem Value} (hop : o.op = .call ⟨.builtin b, args, tys⟩)
    (hb : ∀ consts vs, builtin b tys o.type consts vs = (do pure (.value (← f tys o.type vs)) : Sem Next)) :
    execOp a.eval o = (do let u ← f tys o.type (args.map a.eval); pure (.value u)) := by
  unfold execOp
  rw [hop]
  simp only [resolve, pure_bind, invoke, hb]
theorem op_sound {S S' : St} {a : Act} {o : Oper} {nid : Nat} {eat : Bool} {v : AV} {clone : Nat → Bool} (H : Sim ν S a w) (hn : allocs clone o.op = true → nid < S.h.length ∧ lkB S.h nid = .dead)
    (e : opR P S nid eat o.op = some (v, S')) : Step ν S w ((execOp a.eval o).run P w) v S' := by
  have hr := H.heap
  cases hop : o.op with
  | move x =>
    rw [hop] at e; cases e
    exact Step.still hr (by unfold execOp; rw [hop]; rfl) (ev_VR H x)
  | assign x =>
    rw [hop] at e; cases e
    exact Step.still hr (by unfold execOp; rw [hop]; rfl) (ev_VR H x)
  | pick c x y =>
    rw [hop] at e
    simp only [opR, opK] at e
    split at e <;> try (cases e; done)
    rename_i b hb
    have hc := ev_VR H c
    rw [hb] at hc
    have hc : a.eval c = .bool b := hc
    have hx : (execOp a.eval o).run P w = .ok (.value (if b then a.eval x else a.eval y)) w := by unfold execOp; rw [hop]; simp [asBool, hc]
    split at e
    · cases e; exact Step.still hr hx (ev_VR H x)
    · cases e; exact Step.still hr hx (ev_VR H y)
  | box el x =>
    rw [hop] at e
    simp only [opR, opK] at e
    split at e <;> try (cases e; done)
    rename_i cs hcs
    cases e
    obtain ⟨h1, h2⟩ := hn (by rw [hop]; rfl)
    have hx : execOp a.eval o = (do let u ← Instr.box el (a.eval x); pure (.value u)) := by unfold execOp; rw [hop]
    rw [hx]
    exact (box_ok hr h1 h2 hcs (ev_VR H x)).step
  | alloc el =>
    rw [hop] at e
    simp only [opR, opK] at e
    split at e <;> try (cases e; done)
    rename_i z hz
    split at e <;> try (cases e; done)
    rename_i cs hcs
    cases e
    obtain ⟨h1, h2⟩ := hn (by rw [hop]; rfl)
    have hx : execOp a.eval o = (do let u ← Instr.alloc el true (.tuple #[]); pure (.value u)) := by unfold execOp; rw [hop]
    rw [hx]
    exact (alloc_ok hr h1 h2 hz hcs).step
  | build t ps =>
    rw [hop] at e
    simp only [opR, opK] at e
    have hx : execOp a.eval o = (do let u ← Instr.build t (ps.map fun (i, x) => (i, a.eval x)); pure (.value u)) := by unfold execOp; rw [hop]
    rw [hx]
    split at e <;> try (cases e; done)
    · rename_i fs ht
      split at e <;> try (cases e; done)
      rename_i hfs
      split at e <;> try (cases e; done)
      rename_i z hz
      split at e <;> try (cases e; done)
      rename_i zs hzs
      split at e <;> try (cases e; done)
      rename_i cs hcs
      cases e
      exact (buildStruct_ok H ht hfs hz hzs hcs).step
    · rename_i n el ht
      split at e <;> try (cases e; done)
      rename_i sz z hs hz
      split at e <;> try (cases e; done)
      rename_i zs hzs
      split at e <;> try (cases e; done)
      rename_i cs hcs
      cases e
      exact (buildArr_ok H ht hs hz hzs hcs).step
  | buildSlice t n ps =>
    rw [hop] at e
    simp only [opR, opK] at e
    split at e <;> try (cases e; done)
    rename_i el hel
    split at e <;> try (cases e; done)
    rename_i ty hty
    split at e <;> try (cases e; done)
    rename_i hc
    simp only [Bool.and_eq_true, beq_iff_eq, decide_eq_true_eq] at hc
    split at e <;> try (cases e; done)
    rename_i xs hxs
    cases e
    obtain ⟨h1, h2⟩ := hn (by rw [hop]; rfl)
    have hx : execOp a.eval o = (do let u ← Instr.buildSlice t n (ps.map fun (i, x) => (i, a.eval x)); pure (.value u)) := by unfold execOp; rw [hop]
    rw [hx]
    exact (buildSlice_ok H h1 h2 hel hc.1 hc.2.1 hc.2.2 hxs).step
  | load t x =>
    rw [hop] at e
    simp only [opR, opK] at e
    rw [loadK_nat] at e
    obtain ⟨v', h1, h2⟩ := bindS e
    cases h2
    have hx : execOp a.eval o = (do let u ← Instr.loadAt t (a.eval x); pure (.value u)) := by unfold execOp; rw [hop]
    rw [hx]
    obtain ⟨u, h3, h4⟩ := load_ok hr h1 (ev_VR H x)
    exact (Does.still hr h3 h4).step
  | store t x y =>
    rw [hop] at e
    simp only [opR, opK] at e
    have hx : execOp a.eval o = (do Instr.storeAt t (a.eval x) (a.eval y); pure .skip) := by unfold execOp; rw [hop]
    rw [hx]
    split at e
    · split at e <;> try (cases e; done)
      rename_i id g lo n hsub
      split at e <;> try (cases e; done)
      rename_i ty g' xs hl
      split at e <;> try (cases e; done)
      rename_i hc
      simp only [Bool.and_eq_true, beq_iff_eq, decide_eq_true_eq] at hc
      obtain ⟨rfl, hln⟩ := hc
      rw [storeK_nat] at e
      obtain ⟨h', h1, h2⟩ := bindS e
      cases h2
      have hy := ev_VR H y
      rw [hsub] at hy
      obtain ⟨ν1, v1, H1, ev1⟩ := eat_sub hr hl hln hy
      obtain ⟨w', k1, k2, k3, k4⟩ := store_ok H1 h1 ((ev_VR H x).ev ev1) v1
      refine ⟨ν1, w', undef, .inr ⟨?_, rfl⟩, trivial, k2, ev1.trans k3 (Nat.le_of_eq (length_updB _ _ _).symm), k4.trans (length_updB _ _ _), rfl⟩
      simp [k1]
    · rw [storeK_nat] at e
      obtain ⟨h', h1, h2⟩ := bindS e
      cases h2
      exact unit_step (store_ok hr h1 (ev_VR H x) (ev_VR H y))
  | nilCheck x =>
    rw [hop] at e
    simp only [opR, opK] at e
    have hv := ev_VR H x
    split at e <;> try (cases e; done)
    · rename_i id off he
      cases e
      rw [he] at hv
      have hv' := hv
      obtain ⟨cs, b, h1, h2, h3⟩ := hv'
      exact Step.still hr (by unfold execOp; rw [hop]; simp only [h3]; rfl) (h3 ▸ hv)
    · rename_i t x' off he
      cases e
      rw [he] at hv
      have hv' := hv
      obtain ⟨b, o', us, h3, h4⟩ := hv'
      exact Step.still hr (by unfold execOp; rw [hop]; simp only [h3]; rfl) (h3 ▸ hv)
    · rename_i id g i off he
      split at e <;> try (cases e; done)
      rename_i t g' fz xs hl
      split at e <;> try (cases e; done)
      rename_i hgg
      cases e
      rw [he] at hv
      have hv' := hv
      obtain ⟨ho, t2, g2, fz2, xs2, hl2, hle, hf⟩ := hv'
      rw [hl] at hl2; cases hl2
      obtain ⟨_, b, o', cap, _, h3⟩ := hf (eq_of_beq hgg)
      exact Step.still hr (by unfold execOp; rw [hop]; simp only [h3]; rfl) (h3 ▸ hv)
  | binOp op t x y yt =>
    rw [hop] at e
    simp only [opR, opK] at e
    rw [binK_nat] at e
    obtain ⟨v', h1, h2⟩ := bindS e
    cases h2
    have hx : execOp a.eval o = (do let u ← (do eqGuard op t x y (a.eval x) (a.eval y); binOp op t (a.eval x) (a.eval y)); pure (.value u)) := by unfold execOp; rw [hop]
    rw [hx]
    exact (binop_ok x y hr h1 (ev_VR H x) (ev_VR H y)).step
  | unOp op t x =>
    rw [hop] at e
    simp only [opR, opK] at e
    have hx : execOp a.eval o = (do let u ← Op.unary op (a.eval x); pure (.value u)) := by unfold execOp; rw [hop]
    rw [hx]
    have hv := ev_VR H x
    split at e <;> try (cases e; done)
    · rename_i b he
      cases e
      rw [he] at hv
      exact (unop_ok (op := .not) hr hv rfl).step
    · rename_i k n he
      rw [arK_nat] at e
      obtain ⟨v', h1, h2⟩ := bindS e
      cases h2
      rw [he] at hv
      exact (unop_ok (op := .neg) hr hv h1).step
  | convert src dst x =>
    rw [hop] at e
    simp only [opR, opK] at e
    have hx : execOp a.eval o = (do let u ← convert src dst (a.eval x); pure (.value u)) := by unfold execOp; rw [hop]
    rw [hx]
    have hv := ev_VR H x
    split at e <;> try (cases e; done)
    rename_i d k k' n hs hd he
    cases e
    rw [he] at hv
    have hv : a.eval x = .int k' n := hv
    refine (Does.still (v := .int k (k.wrap n)) (u := .int k (k.wrap n)) hr ?_ rfl).step
    rw [hv]
    simp only [convert, Sem.run_bind, run_underlying hs, run_underlying hd, Result.andThen_ok]
    simp [Conv.intToInt]
  | makeFunc fn first caps =>
    rw [hop] at e
    simp only [opR, opK] at e
    split at e <;> try (cases e; done)
    rename_i hc
    simp only [Bool.and_eq_true, List.all_eq_true] at hc
    cases e
    have hx : execOp a.eval o = (do let u ← Instr.makeFunc fn (first.map a.eval) (caps.map a.eval); pure (.value u)) := by unfold execOp; rw [hop]
    rw [hx]
    refine (Does.still (v := .fn fn (first.toList.map (ev S.t)) (caps.toList.map (ev S.t))) (u := .func fn (first.map a.eval) (caps.map a.eval)) hr rfl ⟨_, _, rfl, ?_, ?_⟩).step
    · rw [Array.toList_map]
      exact All2.of_map fun x hx => isV0_VR (hc.1 _ (List.mem_map_of_mem hx)) (ev_VR H x)
    · rw [Array.toList_map]
      exact All2.of_map fun x hx => isV0_VR (hc.2 _ (List.mem_map_of_mem hx)) (ev_VR H x)
  | makeMap t r =>
    rw [hop] at e
    simp only [opR, opK] at e
    split at e <;> try (cases e; done)
    rename_i kt et ht
    split at e <;> try (cases e; done)
    rename_i k v' hk hv
    split at e <;> try (cases e; done)
    cases e
    obtain ⟨h1, h2⟩ := hn (by rw [hop]; rfl)
    have hx : execOp a.eval o = (do let u ← Instr.makeMap t none; pure (.value u)) := by unfold execOp; rw [hop]; rfl
    rw [hx]
    exact (makeMap_ok k v' hr h1 h2).step
  | makeSlice t l c =>
    rw [hop] at e
    simp only [opR, opK] at e
    split at e <;> try (cases e; done)
    rename_i k n el hsame hl hel
    split at e <;> try (cases e; done)
    rename_i ty hty
    split at e <;> try (cases e; done)
    rename_i hrow
    split at e <;> try (cases e; done)
    rename_i zs hzs
    split at e <;> try (cases e; done)
    rename_i z hz
    split at e <;> try (cases e; done)
    rename_i hb
    simp only [Bool.and_eq_true, decide_eq_true_eq, okLen] at hb
    cases e
    obtain ⟨h1, h2⟩ := hn (by rw [hop]; rfl)
    have hv := ev_VR H l
    rw [hl] at hv
    have hv : a.eval l = .int k n := hv
    have hc : a.eval c = .int k n := by rw [← same_eval (S := S) hsame, hv]
    have hx : execOp a.eval o = (do let u ← Instr.makeSlice t (.int k n) (.int k n); pure (.value u)) := by unfold execOp; rw [hop]; simp only [hv, hc]
    rw [hx]
    exact (makeSlice_ok hr h1 h2 hel hrow hzs hz hb.1 hb.2).step
  | slice t x lo hi mx =>
    rw [hop] at e
    simp only [opR, opK] at e
    split at e <;> try (cases e; done)
    rename_i el ht
    split at e <;> try (cases e; done)
    rename_i sz hs
    rw [sliceK_nat] at e
    obtain ⟨⟨v', h'⟩, h1, h2⟩ := bindS e
    cases h2
    have hx : execOp a.eval o = (do let u ← Instr.sliceAt t (a.eval x) (lo.map a.eval) (hi.map a.eval) none; pure (.value u)) := by unfold execOp; rw [hop]; rfl
    rw [hx]
    refine (slice_ok hr ht hs h1 (ev_VR H x) (fun y hy => ?_) (fun hy => ?_) (fun y hy => ?_) (fun hy => ?_)).step
    · cases lo with
      | none => cases hy
      | some l => cases hy; exact ⟨_, rfl, ev_VR H l⟩
    · cases lo with
      | none => rfl
      | some l => cases hy
    · cases hi with
      | none => cases hy
      | some l => cases hy; exact ⟨_, rfl, ev_VR H l⟩
    · cases hi with
      | none => rfl
      | some l => cases hy
  | fieldAddr t x f =>
    rw [hop] at e
    simp only [opR, opK] at e
    split at e <;> try (cases e; done)
    rename_i fs ht
    split at e <;> try (cases e; done)
    rename_i fd hf
    split at e <;> try (cases e; done)
    rename_i n hs
    rw [shiftK_nat] at e
    obtain ⟨v', h1, h2⟩ := bindS e
    cases h2
    have hx : execOp a.eval o = (do let u ← Instr.fieldAt t (a.eval x) f; pure (.value u)) := by unfold execOp; rw [hop]
    rw [hx]
    exact (fieldAddr_ok hr ht hf hs h1 (ev_VR H x)).step
  | field t x f =>
    rw [hop] at e
    simp only [opR, opK] at e
    have hv := ev_VR H x
    split at e <;> try (cases e; done)
    rename_i fs cs ht hc
    split at e <;> try (cases e; done)
    rename_i fd hf
    split at e <;> try (cases e; done)
    rename_i agg n hl
    split at e <;> try (cases e; done)
    rename_i ds hg
    split at e <;> try (cases e; done)
    rename_i v' hm
    cases e
    rw [hc] at hv
    have hx : execOp a.eval o = (do let u ← Instr.field t (a.eval x) f; pure (.value u)) := by unfold execOp; rw [hop]
    rw [hx]
    exact (field_ok hr ht hf hl hg hm hv).step
  | indexAddr t x i =>
    rw [hop] at e
    simp only [opR, opK] at e
    have hx : execOp a.eval o = (do let u ← Instr.indexAt t (a.eval x) (a.eval i); pure (.value u)) := by unfold execOp; rw [hop]
    rw [hx]
    split at e <;> try (cases e; done)
    · rename_i el ht
      split at e <;> try (cases e; done)
      rename_i sz hs
      rw [indexK_nat] at e
      obtain ⟨v', h1, h2⟩ := bindS e
      cases h2
      exact (index_ok hr ht hs h1 (ev_VR H x) (ev_VR H i)).step
    · rename_i n el ht
      have hv := ev_VR H x
      have hi := ev_VR H i
      split at e <;> try (cases e; done)
      rename_i id off k j hx' hi'
      split at e <;> try (cases e; done)
      rename_i sz hs
      rw [pickK_nat] at e
      obtain ⟨q, h1, h2⟩ := bindS e
      obtain ⟨rfl, _, hb⟩ := pickK_spec h1
      cases h2
      rw [hx'] at hv
      rw [hi'] at hi
      have hi : a.eval i = .int k (q : Int) := hi
      rw [hi]
      have := (indexArrAddr_ok hr ht (j := (q : Int)) (k := k) ⟨by omega, by omega⟩ hs hv).step
      simpa using this
  | index t x i =>
    rw [hop] at e
    simp only [opR, opK] at e
    have hx : execOp a.eval o = (do let u ← Instr.index t (a.eval x) (a.eval i); pure (.value u)) := by unfold execOp; rw [hop]
    rw [hx]
    have hv := ev_VR H x
    have hi := ev_VR H i
    split at e <;> try (cases e; done)
    rename_i n el cs k j ht hx' hi'
    rw [pickK_nat] at e
    obtain ⟨q, h1, h2⟩ := bindS e
    obtain ⟨rfl, _, hb⟩ := pickK_spec h1
    split at h2 <;> try (cases h2; done)
    rename_i agg m hl
    split at h2 <;> try (cases h2; done)
    rename_i ds hg
    split at h2 <;> try (cases h2; done)
    rename_i v' hm
    cases h2
    rw [hx'] at hv
    rw [hi'] at hi
    have hi : a.eval i = .int k (q : Int) := hi
    rw [hi]
    exact (indexArr_ok hr ht (j := (q : Int)) (k := k) ⟨by omega, by omega⟩ hl (by simpa using hg) hm hv).step
  | lookup t m i ok =>
    rw [hop] at e
    simp only [opR, opK] at e
    rw [lookupK_nat] at e
    obtain ⟨v', h1, h2⟩ := bindS e
    cases h2
    have hx : execOp a.eval o = (do let u ← Instr.lookup t (a.eval m) (a.eval i) ok; pure (.value u)) := by unfold execOp; rw [hop]
    rw [hx]
    exact (lookup_ok hr h1 (ev_VR H m) (ev_VR H i)).step
  | mapUpdate t m i x =>
    rw [hop] at e
    simp only [opR, opK] at e
    rw [mapUpdateK_nat] at e
    obtain ⟨h', h1, h2⟩ := bindS e
    cases h2
    have hx : execOp a.eval o = (do Instr.mapUpdate t (a.eval m) (a.eval i) (a.eval x); pure .skip) := by unfold execOp; rw [hop]
    rw [hx]
    exact unit_step (mapUpdate_ok hr h1 (ev_VR H m) (ev_VR H i) (ev_VR H x))
  | extract x i =>
    rw [hop] at e
    simp only [opR, opK] at e
    have hv := ev_VR H x
    split at e <;> try (cases e; done)
    rename_i vs hvs
    split at e <;> try (cases e; done)
    rename_i v' hv'
    cases e
    rw [hvs] at hv
    obtain ⟨us, hu, h2⟩ := hv
    obtain ⟨u, h3, h4⟩ := h2.get hv'
    refine Step.still hr (u := u) (by unfold execOp; rw [hop]; simp only [hu]; simp at h3; simp [Instr.extract, h3]) ?_
    cases ht : v.isTup with
    | true => cases v <;> try cases ht
              exact h4.elim
    | false => rw [VR_eq ht]; exact h4
  | call c =>
    obtain ⟨f, args, tys⟩ := c
    rw [hop] at e
    cases f with
    | value f => cases e
    | invoke r n => cases e
    | builtin b =>
      simp only [opR, opK] at e
      split at e
      · -- len
        rename_i x t rest hargs htys
        rw [lenK_nat] at e
        obtain ⟨v', h1, h2⟩ := bindS e
        cases h2
        rw [run_builtin (S := S) (f := Builtin.len_) hop (fun _ _ => rfl), arr1 hargs, show Array.map a.eval #[x] = #[a.eval x] by simp]
        have ht0 : tys[0]? = some t := by rw [← Array.getElem?_toList, htys]; rfl
        exact (len_ok hr h1 (ev_VR H x) ht0).step
      · rename_i s x t t' hargs htys
        obtain ⟨h1, h2⟩ := hn (by rw [hop]; rfl)
        rw [run_builtin (S := S) (f := Builtin.append_) hop (fun _ _ => rfl), arr2 hargs, arr2 htys, show Array.map a.eval #[s, x] = #[a.eval s, a.eval x] by simp]
        split at e
        · rename_i htt
          have htt := eq_of_beq htt
          subst htt
          rw [appendK_nat] at e
          obtain ⟨⟨v', h'⟩, h3, h4⟩ := bindS e
          cases h4
          exact (append_ok hr h1 h2 h3 (ev_VR H s) (ev_VR H x)).step
        · split at e <;> try (cases e; done)
          rename_i hu
          rw [zerosK_nat] at e
          obtain ⟨⟨v', h'⟩, h3, h4⟩ := bindS e
          cases h4
          exact (zeros_ok hr h1 h2 hu h3 (ev_VR H s) (ev_VR H x)).step
      · rename_i x t hargs htys
        split at e <;> try (cases e; done)
        rename_i d hd
        rw [clearK_nat] at e
        obtain ⟨h', h1, h2⟩ := bindS e
        cases h2
        rw [run_builtin (S := S) (f := Builtin.clear_) hop (fun _ _ => rfl), arr1 hargs, show Array.map a.eval #[x] = #[a.eval x] by simp]
        have ht0 : tys[0]? = some t := by rw [← Array.getElem?_toList, htys]; rfl
        exact (clear_ok ht0 hr h1 (by rw [hd]; rfl) (ev_VR H x)).step
      · rename_i x t rest hargs htys
        split at e <;> try (cases e; done)
        rename_i el ht hx
        cases e
        have hv := ev_VR H x
        rw [hx] at hv
        have hv : a.eval x = .slice none 0 0 := hv
        rw [run_builtin (S := S) (f := Builtin.cap_) hop (fun _ _ => rfl), arr1 hargs]
        have ht0 : tys[0]? = some t := by rw [← Array.getElem?_toList, htys]; rfl
        exact (Does.still (v := .int .i64 0) (u := .int .i64 0) hr (by simp [Builtin.cap_, ht0, hv, run_underlying ht, goInt]) rfl).step
      · rename_i x xs hargs
        rw [minmaxK_nat] at e
        obtain ⟨v', h1, h2⟩ := bindS e
        cases h2
        rw [run_builtin (S := S) (f := Builtin.min_) hop (fun _ _ => rfl)]
        obtain ⟨u, h3, h4⟩ := minmax_ok (P := P) (f := Builtin.min2) (gt := false) (fun k p q => run_min2 k p q) (xs.map (ev S.t)) (xs.map a.eval) _ v (a.eval x) h1 (ev_VR H x) (All2.of_map fun y _ => ev_VR H y)
        refine (Does.still hr ?_ h4).step
        simp only [Builtin.min_, Array.toList_map, hargs, List.map_cons]
        exact h3
      · rename_i x xs hargs
        rw [minmaxK_nat] at e
        obtain ⟨v', h1, h2⟩ := bindS e
        cases h2
        rw [run_builtin (S := S) (f := Builtin.max_) hop (fun _ _ => rfl)]
        obtain ⟨u, h3, h4⟩ := minmax_ok (P := P) (f := Builtin.max2) (gt := true) (fun k p q => run_max2 k p q) (xs.map (ev S.t)) (xs.map a.eval) _ v (a.eval x) h1 (ev_VR H x) (All2.of_map fun y _ => ev_VR H y)
        refine (Does.still hr ?_ h4).step
        simp only [Builtin.max_, Array.toList_map, hargs, List.map_cons]
        exact h3
      · cases e
  | _ => rw [hop] at e; cases e
end
end Go.Am
end

noncomputable section
namespace Go.Am
variable [Ghost]
def Keep0 (nid : Nat) (h h' : List Blk) : Prop := ∀ j, j ≠ nid → lkB h j = .dead → lkB h' j = .dead
theorem Keep0.refl (nid : Nat) (h : List Blk) : Keep0 nid h h := fun _ _ hd => hd
theorem Keep0.upd {nid id : Nat} {h : List Blk} (B : Blk) (hl : id = nid ∨ lkB h id ≠ .dead) : Keep0 nid h (updB h id B) := fun j hj hd => by
  rw [lkB_updB_ne]
  · exact hd
  · rintro rfl
    rcases hl with rfl | hl
    · exact hj rfl
    · exact hl hd
theorem Keep0.trans {nid : Nat} {h h' h'' : List Blk} (h1 : Keep0 nid h h') (h2 : Keep0 nid h' h'') : Keep0 nid h h'' := fun j hj hd => h2 j hj (h1 j hj hd)
theorem Keep0.frz {nid : Nat} {h : List Blk} (v : AV) : Keep0 nid h (frz h v) := fun _ _ hd => frz_dead hd
theorem Keep0.frzA {nid : Nat} {h : List Blk} (ps : List (Nat × AV)) : Keep0 nid h (frzA h ps) := fun _ _ hd => frzA_dead ps hd
theorem ne_dead {h : List Blk} {id : Nat} {B : Blk} (hl : lkB h id = B) (hB : B ≠ .dead) : lkB h id ≠ .dead := by rw [hl]; exact hB
theorem frz_map {v : AV} {id : Nat} {h : List Blk} {k u : Ty} {es : List (Val k × Val u)} (hl : lkB h id = .map k u es) : lkB (frz h v) id = .map k u es := by
  unfold frz; split
  · exact frzL_map _ hl
  · exact frz1_map hl
theorem store_dead {P : Program} {h h' : List Blk} {t : TypeId} {a v : AV} {nid : Nat} (h1 : storeK P h t a v some = some h') : Keep0 nid h h' := by
  unfold storeK at h1
  (repeat' split at h1) <;> first
    | (cases h1; done)
    | (cases h1; exact Keep0.upd _ (.inr (ne_dead ‹lkB h _ = .cells _› (by simp))))
    | (cases h1; exact (Keep0.frz _).trans (Keep0.upd _ (.inr (ne_dead ‹lkB (frz h _) _ = .row _ _ _ _› (by simp)))))
theorem op_dead {P : Program} {S S' : St} {o : Op} {nid : Nat} {eat : Bool} {v : AV} (e : opR P S nid eat o = some (v, S')) : Keep0 nid S.h S'.h := by
  unfold opR opK at e
  dsimp only at e
  (repeat' split at e) <;> first
    | (cases e; done)
    | (cases e; exact Keep0.refl _ _)
    | (cases e; exact Keep0.upd _ (.inl rfl))
    | (cases e; exact (Keep0.frzA _).trans (Keep0.upd _ (.inl rfl)))
    | (rw [loadK_nat] at e; obtain ⟨v', h1, h2⟩ := bindS e; cases h2; exact Keep0.refl _ _)
    | (rw [binK_nat] at e; obtain ⟨v', h1, h2⟩ := bindS e; cases h2; exact Keep0.refl _ _)
    | (rw [arK_nat] at e; obtain ⟨v', h1, h2⟩ := bindS e; cases h2; exact Keep0.refl _ _)
    | (rw [shiftK_nat] at e; obtain ⟨v', h1, h2⟩ := bindS e; cases h2; exact Keep0.refl _ _)
    | (rw [indexK_nat] at e; obtain ⟨v', h1, h2⟩ := bindS e; cases h2; exact Keep0.refl _ _)
    | (rw [lookupK_nat] at e; obtain ⟨v', h1, h2⟩ := bindS e; cases h2; exact Keep0.refl _ _)
    | (rw [lenK_nat] at e; obtain ⟨v', h1, h2⟩ := bindS e; cases h2; exact Keep0.refl _ _)
    | (rw [minmaxK_nat] at e; obtain ⟨v', h1, h2⟩ := bindS e; cases h2; exact Keep0.refl _ _)
    | (rw [storeK_nat] at e; obtain ⟨h', h1, h2⟩ := bindS e; cases h2; exact store_dead h1)
    | (rw [storeK_nat] at e; obtain ⟨h', h1, h2⟩ := bindS e; cases h2
       exact (Keep0.upd _ (.inr (ne_dead ‹lkB S.h _ = .row _ _ _ _› (by simp)))).trans (store_dead h1))
    | (rw [sliceK_nat] at e; obtain ⟨⟨v', h'⟩, h1, h2⟩ := bindS e; cases h2
       unfold sliceK at h1
       (repeat' split at h1) <;> first
         | (cases h1; done)
         | (cases h1; exact Keep0.refl _ _)
         | (cases h1; exact Keep0.upd _ (.inr (ne_dead ‹lkB S.h _ = .row _ _ _ _› (by simp)))))
    | (rw [appendK_nat] at e; obtain ⟨⟨v', h'⟩, h1, h2⟩ := bindS e; cases h2
       unfold appendK at h1
       (repeat' split at h1) <;> first
         | (cases h1; done)
         | (cases h1; exact Keep0.upd _ (.inl rfl))
         | (cases h1; exact Keep0.upd _ (.inr (ne_dead ‹lkB S.h _ = .row _ _ _ _› (by simp)))))
    | (rw [zerosK_nat] at e; obtain ⟨⟨v', h'⟩, h1, h2⟩ := bindS e; cases h2
       unfold zerosK at h1
       (repeat' split at h1) <;> first
         | (cases h1; done)
         | (cases h1; exact Keep0.upd _ (.inl rfl)))
    | (rw [clearK_nat] at e; obtain ⟨h', h1, h2⟩ := bindS e; cases h2
       unfold clearK at h1
       (repeat' split at h1) <;> first
         | (cases h1; done)
         | (cases h1; exact Keep0.refl _ _)
         | (cases h1; exact Keep0.upd _ (.inr (ne_dead ‹lkB S.h _ = .row _ _ _ _› (by simp)))))
    | (rw [pickK_nat] at e; obtain ⟨q, h1, h2⟩ := bindS e
       (repeat' split at h2) <;> first
         | (cases h2; done)
         | (cases h2; exact Keep0.refl _ _))
    | (rw [mapUpdateK_nat] at e; obtain ⟨h', h1, h2⟩ := bindS e; cases h2
       unfold mapUpdateK at h1
       (repeat' split at h1) <;> first
         | (cases h1; done)
         | (cases h1; exact (Keep0.frz _).trans (Keep0.upd _ (.inr (ne_dead (frz_map ‹lkB S.h _ = .map _ _ _›) (by simp))))))
end Go.Am
end

noncomputable section
namespace Go.Am
variable [Ghost]
section
variable {ρ : Type} {ν ν' : Nat → Value} {h h' : List Blk} {w w' : World} {P : Program}
theorem Ev.same (hh : ∀ id, lkB h' id = lkB h id) (hw : w'.heap = w.heap) (h1 : w'.os = w.os) (h2 : w'.tape = w.tape) (h3 : w'.output = w.output) (m : Nat) : Ev m ν h w ν h' w' :=
  ⟨h1, h2, h3, by rw [hw]; exact Nat.le_refl _, fun b _ hb => ⟨by rw [hw], fun ⟨id, q1, q2⟩ => hb ⟨id, by rwa [hh] at q1, q2⟩⟩, fun id _ => by rw [hh]; exact Blk.next_refl _ _ _⟩
theorem HR.same (H : HR ν h w) (hh : ∀ id, lkB h' id = lkB h id) (hw : w'.heap = w.heap) (h1 : w'.os = w.os) (h2 : w'.tape = w.tape) (h3 : w'.output = w.output) : HR ν h' w' := by
  refine ⟨fun id => ?_, fun i j b q1 q2 => H.inj i j b (by rwa [hh] at q1) (by rwa [hh] at q2), fun b hb => by rw [hw]; exact H.ghlt b hb, fun id b q1 => H.ghne id b (by rwa [hh] at q1)⟩
  rw [hh]
  exact BR.ev (Ev.same hh hw h1 h2 h3 _) rfl (fun b _ _ _ => by rw [hw]) (H.blk id)
theorem Sim.same {S : St} {a : Act} (H : Sim ν S a w) (hh : ∀ id, lkB h' id = lkB S.h id) (hw : w'.heap = w.heap) (h1 : w'.os = w.os) (h2 : w'.tape = w.tape) (h3 : w'.output = w.output) : Sim ν { t := S.t, h := h' } a w' :=
  ⟨H.defers, H.len, fun i => (H.tmps i).ev (Ev.same hh hw h1 h2 h3 _), H.heap.same hh hw h1 h2 h3⟩
theorem lkB_ge : ∀ (h : List Blk) (d : Nat), h.length ≤ d → lkB h d = .dead
  | [], _, _ => rfl
  | x :: xs, 0, h => by simp at h
  | x :: xs, d + 1, h => by simpa [lkB] using lkB_ge xs d (by simpa using h)
theorem lkB_pre : ∀ (h : List Blk) (n id : Nat), lkB (h ++ List.replicate n .dead) id = lkB h id
  | [], 0, _ => rfl
  | [], n + 1, 0 => rfl
  | [], n + 1, id + 1 => by simpa [List.replicate_succ, lkB] using lkB_pre [] n id
  | x :: xs, n, 0 => rfl
  | x :: xs, n, id + 1 => by simpa [lkB] using lkB_pre xs n id
abbrev fen : Fence := { Fence.wide with round := Ghost.Q }
def CallOk (P : Program) (L : Nat) (call : List Nat → Bool → Nat → List AV → List Blk → (AV → List Blk → Option ρ) → Option ρ) : Prop :=
  ∀ path draw g args h (K : AV → List Blk → Option ρ) r, path.length = L → call path draw g args h K = some r → ∀ ν w vals, HR ν h w → All2 (VR ν h w) args vals →
    (∃ fn c, P.funcs[g]? = some fn ∧ fn.body = some c) ∧
    CallsIn Fence.wide 0 P g vals.toArray w fun e w' => ∃ ν' h' v u, e = .returned u ∧ VR ν' h' w' v u ∧ HR ν' h' w' ∧ Ev h.length ν h w ν' h' w' ∧ h.length ≤ h'.length ∧ (∀ j, j < h.length → lkB h j = .dead → lkB h' j = .dead) ∧ K v h' = some r
def CloneOk (P : Program) (clone : Nat → Bool) : Prop :=
  ∀ g, clone g = true → ∀ fz S nid x v S', cloneK P g fz S nid x (fun v S => some (v, S)) = some (v, S') → ∀ ν w u, HR ν S.h w → VR ν S.h w x u → nid < S.h.length → lkB S.h nid = .dead →
    (∃ fn c, P.funcs[g]? = some fn ∧ fn.body = some c) ∧
    CallsIn Fence.wide 0 P g #[u] w fun e w' => ∃ ν' u', e = .returned u' ∧ VR ν' S'.h w' v u' ∧ HR ν' S'.h w' ∧ Ev S.h.length ν S.h w ν' S'.h w' ∧ S.h.length ≤ S'.h.length ∧ Keep0 nid S.h S'.h ∧ S'.t = S.t
theorem cloneK_nat (P : Program) (g : Nat) (fz : Bool) (S : St) (nid : Nat) (x : AV) (K : AV → St → Option ρ) : cloneK P g fz S nid x K = (cloneK P g fz S nid x fun v S => some (v, S)).bind fun r => K r.1 r.2 := by
  unfold cloneK; (repeat' split) <;> rfl
def Aft (m : Nat) (ν : Nat → Value) (h : List Blk) (w : World) (K : St → Option ρ) (r : ρ) (a' : Act) (w' : World) : Prop :=
  ∃ ν' S', Sim ν' S' a' w' ∧ Ev m ν h w ν' S'.h w' ∧ h.length ≤ S'.h.length ∧ K S' = some r
theorem Aft.trans {m m' : Nat} {K : St → Option ρ} {r : ρ} {a' : Act} {ν ν₁ : Nat → Value} {h h₁ : List Blk} {w w₁ w' : World} (e : Ev m ν h w ν₁ h₁ w₁) (hl : h.length ≤ h₁.length) (hm : m ≤ m') (ha : Aft m' ν₁ h₁ w₁ K r a' w') : Aft m ν h w K r a' w' := by
  obtain ⟨ν', S', h1, h2, h3, h4⟩ := ha
  exact ⟨ν', S', h1, e.trans h2 hm, Nat.le_trans hl h3, h4⟩
theorem yielded_gslot {ops : Array Oper} {tmps : Array Value} {j : Nat} {b : Bool} (hv : ∀ o d, ops[j]? = some o → o.dst = some d → tmps[d]? = some (.bool b)) (ho : ∃ o d, ops[j]? = some o ∧ o.dst = some d) : yielded ops tmps j = some b := by
  obtain ⟨o, d, h1, h2⟩ := ho
  unfold yielded
  rw [h1]
  simp [h2, hv o d h1 h2]
theorem op_nid {S : St} {o : Op} {nid nid' : Nat} {eat : Bool} {clone : Nat → Bool} (hal : allocs clone o = false) : opR P S nid eat o = opR P S nid' eat o := by
  cases o <;> try first | rfl | (cases hal; done)
  rename_i c
  obtain ⟨f, args, tys⟩ := c
  cases f <;> try rfl
  rename_i b
  cases b <;> first | (cases hal; done) | rfl | (unfold opR opK; dsimp only; (repeat' split) <;> first | rfl | simp_all)
theorem runOp_sound {E : Env ρ} {call : List Nat → Bool → Nat → List AV → List Blk → (AV → List Blk → Option ρ) → Option ρ} {L : Nat} (hcall : CallOk E.P L call) (hP : ∀ (f : Nat) (fn : Func), E.P.funcs[f]? = some fn → (fn.name == "runtime.NumGoroutine") = false)
    (hclone : CloneOk E.P E.clone)
    {fid : Nat} {path : List Nat} {draw : Bool} {S : St} {a : Act} {nid : Nat} {o : Oper} {K : AV → St → Option ρ} {r : ρ} (hp : path.length = L) (H : Sim ν S a w) (hn : allocs E.clone o.op = true → nid < S.h.length ∧ lkB S.h nid = .dead)
    (e : runOp E call fid path draw S nid o K = some r) {next : Act → World → Prop} {Q : Exit → Act → World → Prop}
    (hk : ∀ (ν' : Nat → Value) (w' : World) (u : Value) (v : AV) (S' : St), VR ν' S'.h w' v u → HR ν' S'.h w' → Ev S.h.length ν S.h w ν' S'.h w' → S.h.length ≤ S'.h.length → (∀ j, j < S.h.length → j ≠ nid ∨ allocs E.clone o.op = false → lkB S.h j = .dead → lkB S'.h j = .dead) → S'.t = S.t → K v S' = some r → next (a.put o.dst u) w') :
    o.wpIn fen 0 E.P a w next Q := by
  refine ⟨fun _ _ => trivial, ?_⟩
  have hnd : ∀ c, o.op ≠ .defer c := by
    intro c hc
    unfold runOp at e
    split at e <;> try (cases e; done)
    split at e
    · rename_i hop
      rw [hc] at hop; cases hop
    · rw [hc] at e
      cases e
  rw [Oper.semAt_eq _ _ _ hnd]
  have plain : ∀ v S', opR E.P S nid (eatOf E draw fid o) o.op = some (v, S') → K v S' = some r → o.uponIn fen 0 E.P a next Q ((execOp a.eval o).run E.P w) := by
    intro v S' h1 h2
    obtain ⟨ν', w', u, h3, h4, h5, h6, h7, h8⟩ := op_sound (clone := E.clone) H hn h1
    have := hk ν' w' u v S' h4 h5 h6 (Nat.le_of_eq h7.symm) (fun j _ hj hd => by
      rcases hj with hj | hal
      · exact op_dead h1 j hj hd
      · rw [op_nid (nid' := j + 1) hal] at h1
        exact op_dead h1 j (by omega) hd) h8 h2
    rcases h3 with h3 | ⟨h3, rfl⟩
    · rw [h3]; exact this
    · rw [h3]; exact this
  unfold runOp at e
  split at e <;> try (cases e; done)
  split at e
  · rename_i f args tys hop
    split at e <;> try (cases e; done)
    rename_i g first caps hf
    have hfv := ev_VR H f
    rw [hf] at hfv
    obtain ⟨fs, cs, hfe, hfirst, hcaps⟩ := hfv
    split at e
    · rename_i hcl
      split at e <;> try (cases e; done)
      rename_i x hargs
      rw [cloneK_nat] at e
      obtain ⟨⟨v, S'⟩, h1, h2⟩ := bindS e
      simp only [Bool.and_eq_true] at hcl
      obtain ⟨hcl, hlit⟩ := hcl
      have hfg : f = .func g := by
        cases f <;> try (cases hlit; done)
        simp only [ev] at hf
        injection hf with q1
        injection q1 with q1
        rw [q1]
      subst hfg
      obtain ⟨hn1, hn2⟩ := hn (by rw [hop]; exact hcl)
      obtain ⟨⟨fn, c, hfn, hbody⟩, hc⟩ := hclone g hcl _ S nid _ v S' h1 ν w _ H.heap (ev_VR H x) hn1 hn2
      have hx : (execOp a.eval o).run E.P w = .ok (.enter g #[a.eval x]) w := by
        unfold execOp
        rw [hop, arr1 hargs]
        simp only [resolve, Act.eval, Deferred.ofValue, pure_bind, invoke, callFunc, Sem.run_bind, run_program, Result.andThen_ok, hfn, hP g fn hfn, hbody]
        simp only [Bool.false_eq_true, if_false, Option.isNone_some]
        show Result.ok (Next.enter g _) w = _
        congr 2
        apply Array.ext'
        cases x <;> simp [Act.eval]
      rw [hx, Oper.uponIn_enter]
      refine ⟨fun hf => (by cases hf), hc.mono fun e' w' hw => ?_⟩
      obtain ⟨ν', u', rfl, g1, g2, g3, g4, g6, g5⟩ := hw
      exact hk ν' w' u' v S' g1 g2 g3 g4 (fun j _ hj hd => g6 j (hj.resolve_right (by rw [hop]; exact fun hf => by rw [show allocs E.clone (.call ⟨.value (.func g), args, tys⟩) = E.clone g from rfl, hcl] at hf; cases hf)) hd) g5 h2
    · rename_i hcl
      have hargs : All2 (VR ν S.h w) (first ++ (args.toList.map (ev S.t) ++ caps)) (fs.toList ++ (args.toList.map a.eval ++ cs.toList)) :=
        (hfirst.mono fun _ _ q => q.up.up).append ((All2.of_map fun x _ => ev_VR H x).append (hcaps.mono fun _ _ q => q.up.up))
      obtain ⟨⟨fn, c, hfn, hbody⟩, hc⟩ := hcall path draw g _ _ _ r hp e ν w _ H.heap hargs
      have hx : (execOp a.eval o).run E.P w = .ok (.enter g (fs.toList ++ (args.toList.map a.eval ++ cs.toList)).toArray) w := by
        unfold execOp
        rw [hop]
        simp only [resolve, hfe, Deferred.ofValue, pure_bind, invoke, callFunc, Sem.run_bind, run_program, Result.andThen_ok, hfn, hP g fn hfn, hbody]
        simp only [Bool.false_eq_true, if_false, Option.isNone_some]
        show Result.ok (Next.enter g _) w = _
        congr 2
        apply Array.ext'
        simp
      rw [hx, Oper.uponIn_enter]
      refine ⟨fun hf => (by cases hf), hc.mono fun e' w' hw => ?_⟩
      obtain ⟨ν', h', v, u, rfl, h1, h2, h3, h4, h6, h5⟩ := hw
      exact hk ν' w' u v { t := S.t, h := h' } h1 h2 h3 h4 (fun j hj _ hd => h6 j hj hd) rfl h5
  · rename_i op hne
    rw [opK_nat] at e
    obtain ⟨⟨v, S'⟩, h1, h2⟩ := bindS e
    exact plain v S' h1 h2
theorem upd_self : ∀ (t : List AV) (d : Nat), upd t d (lk t d) = t
  | [], _ => rfl
  | _ :: _, 0 => rfl
  | x :: t, d + 1 => by simp [upd, lk, upd_self t d]
theorem Sim.put_und {S : St} {a : Act} (H : Sim ν S a w) (d : Option Nat) : Sim ν { t := setDst S.t d .und, h := S.h } (a.put d undef) w :=
  H.put (Ev.refl _ _ _ _) H.heap d (v := .und) rfl
def Ready (n nid : Nat) (h : List Blk) : Prop := ∀ j, nid ≤ j → j < nid + n → j < h.length ∧ lkB h j = .dead
theorem nAllocs_cons {clone : Nat → Bool} {o : Oper} {os : List Oper} : nAllocs clone (o :: os) = bif allocs clone o.op then nAllocs clone os + 1 else nAllocs clone os := rfl
theorem guard_slot {all : List Oper} {o : Oper} {j : Nat} {want : Bool} : ∀ {l : List Oper}, guardsOk all l = true → o ∈ l → o.guard = some (j, want) → ∃ p d, all[j]? = some p ∧ p.dst = some d
  | [], _, hm, _ => by cases hm
  | x :: l, hg, hm, he => by
    simp only [guardsOk, Bool.and_eq_true] at hg
    rcases List.mem_cons.1 hm with rfl | hm
    · have h1 := hg.1
      rw [he] at h1
      simp only at h1
      split at h1
      · rename_i p hp
        obtain ⟨d, hd⟩ := Option.isSome_iff_exists.1 h1
        exact ⟨p, d, hp, hd⟩
      · cases h1
    · exact guard_slot hg.2 hm he
theorem yielded_eq {ops : Array Oper} {tmps : Array Value} {j d : Nat} {p : Oper} (hp : ops.toList[j]? = some p) (hd : p.dst = some d) :
    (∀ b, tmps.getD d undef = .bool b → yielded ops tmps j = some b) ∧ (tmps.getD d undef = undef → yielded ops tmps j = none) := by
  have hp' : ops[j]? = some p := by simpa using hp
  constructor
  · intro b hb
    unfold yielded
    rw [hp']
    simp only [Option.bind_some, hd]
    cases ht : tmps[d]? with
    | none => simp [Array.getD_eq_getD_getElem?, ht, undef] at hb
    | some v => simp [Array.getD_eq_getD_getElem?, ht] at hb; subst hb; rfl
  · intro hb
    unfold yielded
    rw [hp']
    simp only [Option.bind_some, hd]
    cases ht : tmps[d]? with
    | none => rfl
    | some v => simp [Array.getD_eq_getD_getElem?, ht] at hb; subst hb; rfl
def stepP (E : Env ρ) (call : List Nat → Bool → Nat → List AV → List Blk → (AV → List Blk → Option ρ) → Option ρ) (fid : Nat) (path : List Nat) (draw : Bool) (all : List Oper) (i nid : Nat) (o : Oper) (S : St) (K : St → Option ρ) : Option ρ :=
  match o.guard with
  | none => runOp E call fid (path ++ [i]) draw S nid o fun v S => K { t := setDst S.t o.dst v, h := S.h }
  | some (j, want) => match lk S.t (gslot all j) with
    | .bool b => match b == want with
      | true => runOp E call fid (path ++ [i]) draw S nid o fun v S => K { t := setDst S.t o.dst v, h := S.h }
      | false => K { t := setDst S.t o.dst .und, h := S.h }
    | .und => K { t := setDst S.t o.dst .und, h := S.h }
    | _ => none
theorem opsK_cons {E : Env ρ} {call : List Nat → Bool → Nat → List AV → List Blk → (AV → List Blk → Option ρ) → Option ρ} {fid : Nat} {path : List Nat} {draw : Bool} {all : List Oper} {o : Oper} {os : List Oper} {i nid : Nat} {S : St} {K : St → Option ρ} :
    opsK E call fid path draw all (o :: os) i nid S K = stepP E call fid path draw all i nid o S fun S' => opsK E call fid path draw all os (i + 1) (bif allocs E.clone o.op then nid + 1 else nid) S' K := by
  simp only [opsK, stepP]
  have hself : ∀ d b, lk S.t d = .bool b → ({ t := upd S.t d (.bool b), h := S.h } : St) = S := fun d b hb => by rw [← hb, upd_self]
  have htself : ∀ d b, lk S.t d = .bool b → upd S.t d (.bool b) = S.t := fun d b hb => by rw [← hb, upd_self]
  cases o.guard with
  | none => rfl
  | some g =>
    obtain ⟨j, want⟩ := g
    simp only
    cases hb : lk S.t (gslot all j) <;> try rfl
    rename_i b
    have h1 := hself _ b hb
    have h2 := htself _ b hb
    cases b <;> cases want <;> simp only [h1, h2] <;> rfl
theorem stepP_sound {E : Env ρ} {call : List Nat → Bool → Nat → List AV → List Blk → (AV → List Blk → Option ρ) → Option ρ} {L : Nat} (hcall : CallOk E.P L call) (hP : ∀ (f : Nat) (fn : Func), E.P.funcs[f]? = some fn → (fn.name == "runtime.NumGoroutine") = false)
    (hclone : CloneOk E.P E.clone) {fid : Nat} {path : List Nat} {draw : Bool} {ops : Array Oper} (hg : guardsOk ops.toList ops.toList = true)
    {S : St} {a : Act} {nid i : Nat} {o : Oper} {K : St → Option ρ} {r : ρ} (hp : path.length + 1 = L) (ho : ops[i]? = some o) (H : Sim ν S a w) (hn : allocs E.clone o.op = true → nid < S.h.length ∧ lkB S.h nid = .dead)
    (e : stepP E call fid path draw ops.toList i nid o S K = some r) {next : Act → World → Prop} {Q : Exit → Act → World → Prop}
    (hk : ∀ (ν' : Nat → Value) (w' : World) (u : Value) (v : AV) (S' : St), VR ν' S'.h w' v u → HR ν' S'.h w' → Ev S.h.length ν S.h w ν' S'.h w' → S.h.length ≤ S'.h.length → (∀ j, j < S.h.length → j ≠ nid ∨ allocs E.clone o.op = false → lkB S.h j = .dead → lkB S'.h j = .dead) → S'.t = S.t →
      K { t := setDst S'.t o.dst v, h := S'.h } = some r → next (a.put o.dst u) w') :
    wpOpIn fen 0 E.P ops Q i next a w := by
  have run : runOp E call fid (path ++ [i]) draw S nid o (fun v S => K { t := setDst S.t o.dst v, h := S.h }) = some r →
      o.wpIn fen 0 E.P a w next Q := fun h1 => runOp_sound hcall hP hclone (by simpa using hp) H hn h1 hk
  -- it is left out
  have skip : K { t := setDst S.t o.dst .und, h := S.h } = some r → next (a.put o.dst undef) w :=
    fun h1 => hk ν w undef .und S rfl H.heap (Ev.refl _ _ _ _) (Nat.le_refl _) (fun _ _ _ hd => hd) rfl h1
  have hmem : o ∈ ops.toList := by
    have : ops.toList[i]? = some o := by simpa using ho
    exact List.mem_of_getElem? this
  unfold wpOpIn
  rw [ho]
  simp only [stepP] at e
  split at e
  · rename_i hgd
    have hw : Region.wanted o (yielded ops a.tmps) = true := by simp [Region.wanted, hgd]
    simp only [hw, if_true]
    exact run e
  · rename_i j want hgd
    obtain ⟨p, d, hp, hd⟩ := guard_slot hg hmem hgd
    obtain ⟨hy1, hy2⟩ := yielded_eq (tmps := a.tmps) hp hd
    have hslot : gslot ops.toList j = d := by simp [gslot, hp, hd]
    rw [hslot] at e
    have hv := H.tmps d
    split at e
    · rename_i b hb
      rw [hb] at hv
      have hyb := hy1 b hv
      split at e
      · rename_i hbw
        have hw : Region.wanted o (yielded ops a.tmps) = true := by
          simp only [beq_iff_eq] at hbw
          simp [Region.wanted, hgd, hyb, hbw]
        simp only [hw, if_true]
        exact run e
      · rename_i hbw
        have hw : Region.wanted o (yielded ops a.tmps) = false := by
          simp only [beq_eq_false_iff_ne] at hbw
          simpa [Region.wanted, hgd, hyb] using hbw
        simp only [hw, Bool.false_eq_true, if_false]
        exact ⟨fun _ _ => trivial, skip e⟩
    · rename_i hb
      rw [hb] at hv
      have hw : Region.wanted o (yielded ops a.tmps) = false := by simp [Region.wanted, hgd, hy2 hv]
      simp only [hw, Bool.false_eq_true, if_false]
      exact ⟨fun _ _ => trivial, skip e⟩
    · cases e
theorem opsK_step {E : Env ρ} {call : List Nat → Bool → Nat → List AV → List Blk → (AV → List Blk → Option ρ) → Option ρ} {L : Nat} (hcall : CallOk E.P L call) (hP : ∀ (f : Nat) (fn : Func), E.P.funcs[f]? = some fn → (fn.name == "runtime.NumGoroutine") = false)
    (hclone : CloneOk E.P E.clone) {fid : Nat} {path : List Nat} {draw : Bool} {ops : Array Oper} (hg : guardsOk ops.toList ops.toList = true)
    {S : St} {a : Act} {nid i : Nat} {o : Oper} {os : List Oper} {K : St → Option ρ} {r : ρ} (hp : path.length + 1 = L) (ho : ops[i]? = some o) (H : Sim ν S a w) (hn : Ready (nAllocs E.clone (o :: os)) nid S.h)
    (e : opsK E call fid path draw ops.toList (o :: os) i nid S K = some r) {next : Act → World → Prop} {Q : Exit → Act → World → Prop}
    (hk : ∀ (ν' : Nat → Value) (w' : World) (u : Value) (v : AV) (S' : St), VR ν' S'.h w' v u → HR ν' S'.h w' → Ev S.h.length ν S.h w ν' S'.h w' → S.h.length ≤ S'.h.length → Ready (nAllocs E.clone os) (bif allocs E.clone o.op then nid + 1 else nid) S'.h → (∀ j, j < S.h.length → j < nid → lkB S.h j = .dead → lkB S'.h j = .dead) → S'.t = S.t →
      opsK E call fid path draw ops.toList os (i + 1) (bif allocs E.clone o.op then nid + 1 else nid) { t := setDst S'.t o.dst v, h := S'.h } K = some r → next (a.put o.dst u) w') :
    wpOpIn fen 0 E.P ops Q i next a w := by
  have hn0 : allocs E.clone o.op = true → nid < S.h.length ∧ lkB S.h nid = .dead := fun hal => hn nid (Nat.le_refl _) (by rw [nAllocs_cons, hal]; simp)
  have hrest : Ready (nAllocs E.clone os) (bif allocs E.clone o.op then nid + 1 else nid) S.h := fun j h1 h2 => by
    cases hal : allocs E.clone o.op with
    | true => rw [hal] at h1 h2; exact hn j (by simp at h1; omega) (by rw [nAllocs_cons, hal]; simp at h2 ⊢; omega)
    | false => rw [hal] at h1 h2; exact hn j (by simpa using h1) (by rw [nAllocs_cons, hal]; simpa using h2)
  rw [opsK_cons] at e
  refine stepP_sound hcall hP hclone hg hp ho H hn0 e fun ν' w' u v S' g1 g2 g3 g4 g5 g6 g7 => hk ν' w' u v S' g1 g2 g3 g4 (fun j h2 h3 => ?_) (fun j hj hlt hd => g5 j hj (.inl (by omega)) hd) g6 g7
  obtain ⟨h4, h5⟩ := hrest j h2 h3
  refine ⟨by omega, g5 j h4 ?_ h5⟩
  cases hal : allocs E.clone o.op with
  | true => left; rw [hal] at h2; simp at h2; omega
  | false => exact .inr rfl
end
end Go.Am
end

noncomputable section
namespace Go.Am
variable [Ghost]
section
variable {ρ : Type} {ν ν' : Nat → Value} {h h' : List Blk} {w w' : World} {P : Program}
def Dd (m : Nat) (h h' : List Blk) : Prop := ∀ j, j < m → lkB h j = .dead → lkB h' j = .dead
theorem Dd.refl (m : Nat) (h : List Blk) : Dd m h h := fun _ _ hd => hd
theorem Dd.trans {m m' : Nat} {h h' h'' : List Blk} (h1 : Dd m h h') (h2 : Dd m' h' h'') (hm : m ≤ m') : Dd m h h'' := fun j hj hd => h2 j (Nat.lt_of_lt_of_le hj hm) (h1 j hj hd)
def AftE (m : Nat) (ν : Nat → Value) (h : List Blk) (w : World) (K : Exit → St → Option ρ) (r : ρ) (e : Exit) (a' : Act) (w' : World) : Prop :=
  ∃ ν' S', Sim ν' S' a' w' ∧ Ev m ν h w ν' S'.h w' ∧ m ≤ S'.h.length ∧ Dd m h S'.h ∧ K e S' = some r
theorem AftE.trans {m m' : Nat} {K : Exit → St → Option ρ} {r : ρ} {e : Exit} {a' : Act} {ν₁ : Nat → Value} {h₁ : List Blk} {w₁ : World} (ev : Ev m ν h w ν₁ h₁ w₁) (hd : Dd m h h₁) (hm : m ≤ m') (ha : AftE m' ν₁ h₁ w₁ K r e a' w') : AftE m ν h w K r e a' w' := by
  obtain ⟨ν', S', h1, h2, h3, h4, h5⟩ := ha
  exact ⟨ν', S', h1, ev.trans h2 hm, Nat.le_trans hm h3, hd.trans h4 hm, h5⟩
def LibEq (E : Env ρ) (call : List Nat → Bool → Nat → List AV → List Blk → (AV → List Blk → Option ρ) → Option ρ) : Prop :=
  (∀ path draw g args h K, call path draw g args h K = none) ∨
  ((∀ f p, E.pure f = some p → ∀ path draw args h K, call path draw f args h K = pureK (draw && !E.fz f) p h args K) ∧
   (∀ f, E.pure f = none → E.sort f = true → ∀ path draw args h K, call path draw f args h K = match args with | [x] => sortK h x K | _ => none) ∧
   (∀ f, E.pure f = none → E.sort f = false → E.compact f = true → ∀ path draw args h K, call path draw f args h K = match args with | [x] => compactK h x K | _ => none))
def NormOk (m : Nat) (N : St → Option St) : Prop := ∀ (S S' : St) (ν : Nat → Value) (a : Act) (w : World), N S = some S' → Sim ν S a w → m ≤ S.h.length → ∃ ν', Sim ν' S' a w ∧ Ev m ν S.h w ν' S'.h w ∧ m ≤ S'.h.length ∧ Dd m S.h S'.h
def JoinOk (E : Env ρ) : Prop := ∀ path fid rid m J, E.joins path fid rid m = some J → ∃ N, NormOk m N ∧ ∀ body rest, J body rest = body (fun S => match N S with | some S' => rest S' | none => none)
theorem joins_none {E : Env ρ} (h : E.joins = fun _ _ _ _ => none) : JoinOk E := by
  intro path fid rid m J e
  rw [h] at e
  cases e
structure EnvOk (E : Env ρ) (L : Nat) (call : List Nat → Bool → Nat → List AV → List Blk → (AV → List Blk → Option ρ) → Option ρ) : Prop where
  pureEq : LibEq E call
  call : CallOk E.P L call
  plain : ∀ (f : Nat) (fn : Func), E.P.funcs[f]? = some fn → (fn.name == "runtime.NumGoroutine") = false
  clone : CloneOk E.P E.clone
  joins : JoinOk E
theorem opsK_text {E : Env ρ} {call : List Nat → Bool → Nat → List AV → List Blk → (AV → List Blk → Option ρ) → Option ρ} {L : Nat} (hE : EnvOk E L call) {fid : Nat} {path : List Nat} {draw : Bool} {ops : Array Oper} (hp : path.length + 1 = L) (hg : guardsOk ops.toList ops.toList = true)
    {K : St → Option ρ} {r : ρ} {Q : Exit → Act → World → Prop} {m : Nat} : ∀ (os : List Oper) (i nid : Nat) (S : St) (a : Act) (ν : Nat → Value) (w : World), (∀ k, os[k]? = ops[i + k]?) → Sim ν S a w → Ready (nAllocs E.clone os) nid S.h → m ≤ nid → m ≤ S.h.length →
      opsK E call fid path draw ops.toList os i nid S K = some r →
      (∀ ν' S' a' w', Sim ν' S' a' w' → Ev m ν S.h w ν' S'.h w' → m ≤ S'.h.length → Dd m S.h S'.h → K S' = some r → Q .normal a' w') →
      wpOpsIn fen 0 E.P ops Q (List.range' i os.length) a w
  | [], i, nid, S, a, ν, w, _, H, _, _, hm, e, hQ => hQ ν S a w H (Ev.refl _ _ _ _) hm (Dd.refl _ _) e
  | o :: os, i, nid, S, a, ν, w, ho, H, hn, hmn, hm, e, hQ => by
    rw [List.length_cons, List.range'_succ, wpOpsIn_cons]
    have ho0 : ops[i]? = some o := by have := ho 0; simpa using this.symm
    refine opsK_step hE.call hE.plain hE.clone hg hp ho0 H hn e fun ν' w' u v S' h1 h2 h3 h4 h5 h8 h6 h7 => ?_
    have hput := H.put h3 h2 o.dst h1
    refine opsK_text hE hp hg os (i + 1) _ { t := setDst S'.t o.dst v, h := S'.h } _ ν' w' (fun k => by have := ho (k + 1); rw [show i + 1 + k = i + (k + 1) by omega]; simpa using this) (by rw [h6]; exact hput) h5 (by cases allocs E.clone o.op <;> simp <;> omega) (by simp; omega) h7
      fun ν'' S'' a'' w'' g1 g2 g3 g4 g5 => hQ ν'' S'' a'' w'' g1 ((h3.mono hm).trans g2 (Nat.le_refl _)) g3 (fun j hj hd => g4 j hj (h8 j (by omega) (by omega) hd)) g5
theorem region_text {E : Env ρ} {call : List Nat → Bool → Nat → List AV → List Blk → (AV → List Blk → Option ρ) → Option ρ} {L : Nat} (hE : EnvOk E L call) {fid rid : Nat} {path : List Nat} {ops : Array Oper} {S : St} {a : Act} {K : Exit → St → Option ρ} {r : ρ} {m : Nat} (hp : path.length + 1 = L)
    (e : regionK E call fid path false ops.toList S (K .normal) = some r) (H : Sim ν S a w) (hm : m ≤ S.h.length) : (Code.region rid ops false).wpIn fen 0 E.P (AftE m ν S.h w K r) a w := by
  unfold regionK at e
  split at e <;> try (cases e; done)
  rename_i hg
  simp only [Bool.false_and, Bool.false_or, Bool.not_eq_false'] at hg
  apply wpIn_region
  have hpre := fun id => lkB_pre S.h (nAllocs E.clone ops.toList) id
  have H1 : Sim ν { t := S.t, h := S.h ++ List.replicate (nAllocs E.clone ops.toList) .dead } a w := H.same hpre rfl rfl rfl rfl
  have ev0 : Ev m ν S.h w ν (S.h ++ List.replicate (nAllocs E.clone ops.toList) .dead) w := Ev.same hpre rfl rfl rfl rfl m
  have := opsK_text (m := m) (Q := AftE m ν S.h w K r) hE hp hg ops.toList 0 S.h.length _ a ν w (fun k => by simp) H1 (fun j h1 h2 => ⟨by simp; omega, by simp only [hpre]; exact lkB_ge _ _ h1⟩) hm (by simp; omega) e
    (fun ν' S' a' w' g1 g2 g3 g4 g5 => ⟨ν', S', g1, ev0.trans g2 (Nat.le_refl _), g3, fun j hj hd => g4 j hj (by simp only [hpre]; exact hd), g5⟩)
  rw [List.range_eq_range']
  simpa using this
def DrawOk (E : Env ρ) (L : Nat) (call : List Nat → Bool → Nat → List AV → List Blk → (AV → List Blk → Option ρ) → Option ρ) : Prop :=
  ∀ (fid rid : Nat) (path : List Nat) (ops : Array Oper) (S : St) (a : Act) (K : Exit → St → Option ρ) (r : ρ) (m : Nat) (ν : Nat → Value) (w : World), path.length + 1 = L →
    regionK E call fid path true ops.toList S (K .normal) = some r → Sim ν S a w → m ≤ S.h.length → (Code.region rid ops true).wpIn fen 0 E.P (AftE m ν S.h w K r) a w
def drawn : Code → Bool
  | .region _ _ d => d
  | .seq a b => drawn a || drawn b
  | .cond _ a b => drawn a || drawn b
  | .block _ b => drawn b
  | .scope b => drawn b
  | _ => false
def noGoto (Q : Exit → Act → World → Prop) : Exit → Act → World → Prop
  | .goto _, _, _ => False
  | e, a, w => Q e a w
section
variable {F : Fence} {n : Nat} {P : Program} {Q : Exit → Act → World → Prop} {a : Act} {w : World}
theorem stepR_scope {b : Frame} {k : List Item} {cs : List Frame} {c : Code} : step P (lone (b.atR a (.code (.scope c) :: k)) cs w) = .next (lone (b.atR a (.code c :: .inScope c :: k)) cs w) :=
  step_lone_go (by simp [stepG, stepG.exec, Frame.atR])
theorem stepR_inScope {b : Frame} {k : List Item} {cs : List Frame} {c : Code} : step P (lone (b.atR a (.inScope c :: k)) cs w) = .next (lone (b.atR a k) cs w) :=
  step_lone_go (by simp [stepG, stepG.exec, Frame.atR])
theorem wpIn_scope {c : Code} (h : c.wpIn F n P (noGoto Q) a w) : (Code.scope c).wpIn F n P Q a w := by
  intro b k cs hro hb hr
  have h0 : (lone (b.atR a (.code (.scope c) :: k)) cs w).fenced P F := fenced_calm hb hr rfl
  obtain ⟨e, a₁, w₁, hq, harr⟩ := h b (.inScope c :: k) cs hro hb hr
  cases e with
  | normal => exact ⟨.normal, a₁, w₁, hq, .head h0 stepR_scope (StepsIn.trans harr (.one (fenced_calm hb hr rfl) stepR_inScope))⟩
  | exit id =>
    have hx : exitTo id (.inScope c :: k) = exitTo id k := by simp [exitTo]
    exact ⟨.exit id, a₁, w₁, hq, fun k' hk => .head h0 stepR_scope (harr.1 k' (by rw [hx]; exact hk)),
        fun hr' hk => let ⟨k₁, h1, h2⟩ := harr.2 hr' (by rw [hx]; exact hk); ⟨k₁, h1, .head h0 stepR_scope h2⟩⟩
  | goto l => exact hq.elim
  | ret => exact ⟨_, a₁, w₁, hq, .of_steps (.one h0 stepR_scope) harr⟩
  | panic ch => exact ⟨_, a₁, w₁, hq, .of_steps (.one h0 stepR_scope) harr⟩
  | outgrown => exact ⟨_, a₁, w₁, hq, .of_steps (.one h0 stepR_scope) harr⟩
end
def LoopOk (E : Env ρ) (path : List Nat) (fid bid : Nat) (b : Code) : Prop :=
  ∀ (m : Nat) (S : St) (K : Exit → St → Option ρ) (r : ρ) (ν : Nat → Value) (a : Act) (w : World), E.loops path fid bid m S K = some r → Sim ν S a w → m ≤ S.h.length → (Code.loop b).wpIn fen 0 E.P (AftE m ν S.h w K r) a w
theorem goC_soundD {E : Env ρ} {call : List Nat → Bool → Nat → List AV → List Blk → (AV → List Blk → Option ρ) → Option ρ} {L : Nat} (hE : EnvOk E L call) {fid : Nat} {path : List Nat} (hp : path.length + 2 = L) {m : Nat} {r : ρ} : ∀ (c : Code) (bid : Nat) (S : St) (K : Exit → St → Option ρ) (ν : Nat → Value) (a : Act) (w : World),
    (drawn c = true → DrawOk E L call) → (∀ x ∈ loopsOf bid c, LoopOk E path fid x.1 x.2) → goC E call fid path m bid c S K = some r → Sim ν S a w → m ≤ S.h.length → c.wpIn fen 0 E.P (AftE m ν S.h w K r) a w := by
  intro c
  induction c with
  | skip => exact fun bid S K ν a w _ _ e H hm => wpIn_skip ⟨ν, S, H, Ev.refl _ _ _ _, hm, Dd.refl _ _, e⟩
  | label l => exact fun bid S K ν a w _ _ e H hm => wpIn_label ⟨ν, S, H, Ev.refl _ _ _ _, hm, Dd.refl _ _, e⟩
  | exit id => exact fun bid S K ν a w _ _ e H hm => wpIn_exit ⟨ν, S, H, Ev.refl _ _ _ _, hm, Dd.refl _ _, e⟩
  | ret => exact fun bid S K ν a w _ _ e H hm => wpIn_ret ⟨ν, S, H, Ev.refl _ _ _ _, hm, Dd.refl _ _, e⟩
  | region rid ops draw =>
    intro bid S K ν a w hD _ e H hm
    simp only [goC, forceS_eq] at e
    cases draw with
    | false => exact region_text hE (by simpa using hp) e H hm
    | true => exact hD rfl fid rid _ ops S a K r m ν w (by simpa using hp) e H hm
  | seq x y ihx ihy =>
    intro bid S K ν a w hD hL e H hm
    simp only [goC] at e
    cases hj : E.joins path fid (headRid y) m with
    | none =>
      rw [hj] at e
      simp only at e
      refine wpIn_seq (wpIn_mono (ihx bid S _ ν a w (fun h => hD (by simp [drawn, h])) (fun z hz => hL z (List.mem_append_left _ hz)) e H hm) fun e' a' w' ha => ?_)
      obtain ⟨ν', S', h1, h2, h3, h4, h5⟩ := ha
      cases e' with
      | normal =>
        exact wpIn_mono (ihy bid S' K ν' a' w' (fun h => hD (by simp [drawn, h])) (fun z hz => hL z (List.mem_append_right _ hz)) h5 h1 h3) fun e'' a'' w'' ha => ha.trans h2 h4 (Nat.le_refl _)
      | exit id => exact ⟨ν', S', h1, h2, h3, h4, h5⟩
      | goto l => exact ⟨ν', S', h1, h2, h3, h4, h5⟩
      | ret => exact ⟨ν', S', h1, h2, h3, h4, h5⟩
      | panic ch => exact ⟨ν', S', h1, h2, h3, h4, h5⟩
      | outgrown => exact ⟨ν', S', h1, h2, h3, h4, h5⟩
    | some J =>
      rw [hj] at e
      simp only at e
      obtain ⟨N, hN, hJ⟩ := hE.joins _ _ _ _ _ hj
      rw [hJ] at e
      refine wpIn_seq (wpIn_mono (ihx bid S _ ν a w (fun h => hD (by simp [drawn, h])) (fun z hz => hL z (List.mem_append_left _ hz)) e H hm) fun e' a' w' ha => ?_)
      obtain ⟨ν', S', h1, h2, h3, h4, h5⟩ := ha
      cases e' with
      | normal =>
        simp only at h5
        split at h5 <;> try (cases h5; done)
        rename_i S'' hn
        obtain ⟨ν'', g1, g2, g3, g4⟩ := hN S' S'' ν' a' w' hn h1 h3
        exact wpIn_mono (ihy bid S'' K ν'' a' w' (fun h => hD (by simp [drawn, h])) (fun z hz => hL z (List.mem_append_right _ hz)) h5 g1 g3) fun e'' a'' w'' ha => ha.trans (h2.trans g2 (Nat.le_refl _)) (h4.trans g4 (Nat.le_refl _)) (Nat.le_refl _)
      | exit id => exact ⟨ν', S', h1, h2, h3, h4, h5⟩
      | goto l => exact ⟨ν', S', h1, h2, h3, h4, h5⟩
      | ret => exact ⟨ν', S', h1, h2, h3, h4, h5⟩
      | panic ch => exact ⟨ν', S', h1, h2, h3, h4, h5⟩
      | outgrown => exact ⟨ν', S', h1, h2, h3, h4, h5⟩
  | cond c x y ihx ihy =>
    intro bid S K ν a w hD hL e H hm
    simp only [goC] at e
    split at e <;> try (cases e; done)
    rename_i b hb
    have hv := ev_VR H c
    rw [hb] at hv
    have hv : a.eval c = .bool b := hv
    split at e
    · exact wpIn_cond_true hv (ihx bid S K ν a w (fun h => hD (by simp [drawn, h])) (fun z hz => hL z (List.mem_append_left _ hz)) e H hm)
    · exact wpIn_cond_false hv (ihy bid S K ν a w (fun h => hD (by simp [drawn, h])) (fun z hz => hL z (List.mem_append_right _ hz)) e H hm)
  | block id b ih =>
    intro bid S K ν a w hD hL e H hm
    simp only [goC] at e
    refine wpIn_block (wpIn_mono (ih id S _ ν a w (fun h => hD (by simpa [drawn] using h)) hL e H hm) fun e' a' w' ha => ?_)
    obtain ⟨ν', S', h1, h2, h3, h4, h5⟩ := ha
    cases e' with
    | exit j =>
      simp only [Exit.inBlock]
      simp only at h5
      split at h5
      · rename_i hj
        rw [if_pos (eq_of_beq hj)]
        exact ⟨ν', S', h1, h2, h3, h4, h5⟩
      · rename_i hj
        have : ¬ j = id := by simpa using hj
        rw [if_neg this]
        exact ⟨ν', S', h1, h2, h3, h4, h5⟩
    | normal => exact ⟨ν', S', h1, h2, h3, h4, h5⟩
    | goto l => exact ⟨ν', S', h1, h2, h3, h4, h5⟩
    | ret => exact ⟨ν', S', h1, h2, h3, h4, h5⟩
    | panic ch => exact ⟨ν', S', h1, h2, h3, h4, h5⟩
    | outgrown => exact ⟨ν', S', h1, h2, h3, h4, h5⟩
  | loop b ih =>
    intro bid S K ν a w hD hL e H hm
    simp only [goC] at e
    exact hL (bid, b) (by simp [loopsOf]) m S K r ν a w e H hm
  | scope b ih =>
    intro bid S K ν a w hD hL e H hm
    simp only [goC] at e
    refine wpIn_scope (wpIn_mono (ih bid S _ ν a w (fun h => hD (by simpa [drawn] using h)) hL e H hm) fun e' a' w' ha => ?_)
    obtain ⟨ν', S', h1, h2, h3, h4, h5⟩ := ha
    cases e' with
    | goto l => cases h5
    | normal => exact ⟨ν', S', h1, h2, h3, h4, h5⟩
    | exit id => exact ⟨ν', S', h1, h2, h3, h4, h5⟩
    | ret => exact ⟨ν', S', h1, h2, h3, h4, h5⟩
    | panic ch => exact ⟨ν', S', h1, h2, h3, h4, h5⟩
    | outgrown => exact ⟨ν', S', h1, h2, h3, h4, h5⟩
  | _ => intro bid S K ν a w hD hL e H hm; cases e
theorem goC_sound {E : Env ρ} {call : List Nat → Bool → Nat → List AV → List Blk → (AV → List Blk → Option ρ) → Option ρ} {L : Nat} (hE : EnvOk E L call) (hD : DrawOk E L call) {fid : Nat} {path : List Nat} (hp : path.length + 2 = L) {m : Nat} {r : ρ} (c : Code) (bid : Nat) (S : St) (K : Exit → St → Option ρ) (ν : Nat → Value) (a : Act) (w : World)
    (hL : ∀ x ∈ loopsOf bid c, LoopOk E path fid x.1 x.2) (e : goC E call fid path m bid c S K = some r) (H : Sim ν S a w) (hm : m ≤ S.h.length) : c.wpIn fen 0 E.P (AftE m ν S.h w K r) a w :=
  goC_soundD hE hp c bid S K ν a w (fun _ => hD) hL e H hm
end
end Go.Am
end

noncomputable section
namespace Go.Am
variable [Ghost]
section
variable {ρ : Type} {ν ν' : Nat → Value} {h h' : List Blk} {w w' : World} {P : Program}
def MatchOk : Prop := ∀ (T : Tpl) (pin : Nat) (cs vs : List Ty) (S : St) (p : Val (tyL cs)) (v : Val (tyL vs)) (ν : Nat → Value) (a : Act) (w : World), matchT T pin cs vs S = some (p, v) → Sim ν S a w →
  ∃ ν', Sim ν' (instT T cs vs p v) a w ∧ Ev pin ν S.h w ν' (instT T cs vs p v).h w ∧ pin ≤ (instT T cs vs p v).h.length ∧ Dd pin S.h (instT T cs vs p v).h
theorem findX_spec : ∀ (l : List (Exit × Tpl × List Ty)) (e : Exit) (i j : Nat), findX l e i = some j → ∃ x, i ≤ j ∧ l[j - i]? = some x ∧ sameExit x.1 e = true
  | [], _, _, _, h => by cases h
  | x :: l, e, i, j, h => by
    unfold findX at h
    split at h
    · rename_i hs
      cases h
      exact ⟨x, Nat.le_refl _, by simp, hs⟩
    · obtain ⟨y, h1, h2, h3⟩ := findX_spec l e (i + 1) j h
      refine ⟨y, by omega, ?_, h3⟩
      rw [show j - i = (j - (i + 1)) + 1 by omega]
      simpa using h2
theorem sameExit_eq {a b : Exit} (h : sameExit a b = true) : a = b := by
  unfold sameExit at h
  split at h
  · rw [eq_of_beq h]
  · rfl
  · cases h
theorem loop_sound (hM : MatchOk) {E : Env ρ} {call : List Nat → Bool → Nat → List AV → List Blk → (AV → List Blk → Option ρ) → Option ρ} {N : Nat} (hE : EnvOk E N call) (hD : DrawOk E N call) {fid bid : Nat} {path : List Nat} (hpath : path.length + 2 = N) {b : Code}
    (hin : ∀ x ∈ loopsOf bid b, LoopOk E path fid x.1 x.2) (L : LoopSpec)
    (bF : Val (tyL L.cs) → Val (tyL L.vs) → (Val (tyL L.vs) → Option ρ) → ((i : Nat) → Val (tyL (L.zs i)) → Option ρ) → Option ρ)
    (hrun : ∀ m S K, E.loops path fid bid m S K = runLoop L bF m S K)
    (law : ∀ p v kn kx, goC E call fid path L.pin bid b (instT L.head L.cs L.vs p v) (stepK L kn kx) = bF p v (kn p) (fun i => kx i p)) : LoopOk E path fid bid b := by
  intro m S K r ν a w e H hm
  rw [hrun] at e
  unfold runLoop at e
  split at e <;> try (cases e; done)
  rename_i hpin
  have hpin : m ≤ L.pin := Nat.le_of_ble_eq_true hpin
  split at e <;> try (cases e; done)
  rename_i p v hmt
  obtain ⟨n, hn⟩ := loopT_some e
  obtain ⟨ν₁, H1, ev1, hp1, dd1⟩ := hM _ _ _ _ _ _ _ ν a w hmt H
  apply wpIn_loop_rounds n
  have key : ∀ (n : Nat) (p : Val (tyL L.cs)) (v : Val (tyL L.vs)) (ν₁ : Nat → Value) (a₁ : Act) (w₁ : World), iter (fun v kn => bF p v kn fun i z => K (L.xk i) (instT (L.tpl i) L.cs (L.zs i) p z)) n v = some r →
      Sim ν₁ (instT L.head L.cs L.vs p v) a₁ w₁ → Ev m ν S.h w ν₁ (instT L.head L.cs L.vs p v).h w₁ → L.pin ≤ (instT L.head L.cs L.vs p v).h.length → Dd m S.h (instT L.head L.cs L.vs p v).h →
      Code.roundsIn fen 0 E.P b (AftE m ν S.h w K r) n a₁ w₁ := by
    intro n
    induction n with
    | zero => intro p v ν₁ a₁ w₁ e; cases e
    | succ n ih =>
      intro p v ν₁ a₁ w₁ e H1 ev1 hp1 dd1
      rw [roundsIn_succ]
      have hl := law p v (fun p v => iter (fun v kn => bF p v kn fun i z => K (L.xk i) (instT (L.tpl i) L.cs (L.zs i) p z)) n v) (fun i p z => K (L.xk i) (instT (L.tpl i) L.cs (L.zs i) p z))
      have e' : goC E call fid path L.pin bid b (instT L.head L.cs L.vs p v) (stepK L (fun p v => iter (fun v kn => bF p v kn fun i z => K (L.xk i) (instT (L.tpl i) L.cs (L.zs i) p z)) n v) (fun i p z => K (L.xk i) (instT (L.tpl i) L.cs (L.zs i) p z))) = some r := by
        rw [hl]; exact e
      refine wpIn_mono (goC_sound hE hD hpath b bid _ _ ν₁ a₁ w₁ hin e' H1 hp1) fun x a₂ w₂ ha => ?_
      obtain ⟨ν₂, S₂, H2, ev2, hp2, dd2, hk⟩ := ha
      have ev12 : Ev m ν S.h w ν₂ S₂.h w₂ := ev1.trans ev2 hpin
      have dd12 : Dd m S.h S₂.h := dd1.trans dd2 hpin
      have out : ∀ x, x ≠ .normal → stepK L (fun p v => iter (fun v kn => bF p v kn fun i z => K (L.xk i) (instT (L.tpl i) L.cs (L.zs i) p z)) n v) (fun i p z => K (L.xk i) (instT (L.tpl i) L.cs (L.zs i) p z)) x S₂ = some r → AftE m ν S.h w K r x a₂ w₂ := by
        intro x hx hk
        unfold stepK at hk
        split at hk
        · exact absurd rfl hx
        · split at hk <;> try (cases hk; done)
          rename_i i hi
          split at hk <;> try (cases hk; done)
          rename_i p' z hmt
          obtain ⟨y, _, h1, h2⟩ := findX_spec _ _ _ _ hi
          have hxk : L.xk i = x := by
            have : L.exits[i]? = some y := by simpa using h1
            unfold LoopSpec.xk
            rw [this]
            exact sameExit_eq h2
          obtain ⟨ν₃, H3, ev3, hp3, dd3⟩ := hM _ _ _ _ _ _ _ ν₂ a₂ w₂ hmt H2
          have hk : K (L.xk i) (instT (L.tpl i) L.cs (L.zs i) p' z) = some r := hk
          rw [hxk] at hk
          exact ⟨ν₃, _, H3, ev12.trans ev3 hpin, Nat.le_trans hpin hp3, dd12.trans dd3 hpin, hk⟩
      cases x with
      | normal =>
        simp only [stepK] at hk
        split at hk <;> try (cases hk; done)
        rename_i p' v' hmt
        obtain ⟨ν₃, H3, ev3, hp3, dd3⟩ := hM _ _ _ _ _ _ _ ν₂ a₂ w₂ hmt H2
        exact ih p' v' ν₃ a₂ w₂ hk H3 (ev12.trans ev3 hpin) hp3 (dd12.trans dd3 hpin)
      | exit id => exact out _ (by simp) hk
      | ret => exact out _ (by simp) hk
      | goto l => exact out _ (by simp) hk
      | panic ch => exact out _ (by simp) hk
      | outgrown => exact out _ (by simp) hk
  exact key n p v ν₁ a w hn H1 (ev1.mono hpin) hp1 (fun j hj hd => dd1 j (by omega) hd)
end
end Go.Am
end

noncomputable section
namespace Go.Am
variable [Ghost]
section
variable {ν : Nat → Value} {h h' : List Blk} {w : World}
theorem castDV_eq {t : Ty} {d : DV} {x : Val t} (e : castDV t d = some x) : d = ⟨t, x⟩ := by
  unfold castDV at e
  split at e <;> try (cases e; done)
  rename_i ht _
  obtain ⟨ty, val⟩ := d
  simp only at ht
  subst ht
  cases e
  rfl
theorem toTys_nil (t : Ty) (d : DV) (ds : List DV) : toTys [] t (d :: ds) = (match ds with | [] => castDV t d | _ :: _ => none) := rfl
theorem toTys_cons (u : Ty) (l : List Ty) (t : Ty) (d : DV) (ds : List DV) : toTys (u :: l) t (d :: ds) = (match castDV t d with
      | some x => match toTys l u ds with
        | some y => some ((x, y) : Val t × Val (tys u l))
        | none => none
      | none => none) := rfl
theorem ofTys_nil (t : Ty) (x : Val t) : ofTys t [] x = [⟨t, x⟩] := rfl
theorem ofTys_cons (t u : Ty) (l : List Ty) (x : Val t) (y : Val (tys u l)) : ofTys t (u :: l) ((x, y) : Val t × Val (tys u l)) = ⟨t, x⟩ :: ofTys u l y := rfl
theorem toTys_of (l : List Ty) : ∀ (t : Ty) (ds : List DV) (x : Val (tys t l)), toTys l t ds = some x → ofTys t l x = ds := by
  induction l with
  | nil =>
    intro t ds x e
    match ds, e with
    | [], e => exact absurd (show (none : Option (Val t)) = some x from e) (fun h => by cases h)
    | [d], e =>
      have e : castDV t d = some x := e
      rw [castDV_eq e]; exact ofTys_nil t x
    | _ :: _ :: _, e => exact absurd (show (none : Option (Val t)) = some x from e) (fun h => by cases h)
  | cons u l ih =>
    intro t ds x e
    match ds, e with
    | [], e => exact absurd (show (none : Option (Val t × Val (tys u l))) = some x from e) (fun h => by cases h)
    | d :: ds, e =>
      rw [toTys_cons] at e
      cases hy : castDV t d with
      | none => rw [hy] at e; exact absurd (show (none : Option (Val t × Val (tys u l))) = some x from e) (fun h => by cases h)
      | some y =>
        cases hz : toTys l u ds with
        | none => rw [hy, hz] at e; exact absurd (show (none : Option (Val t × Val (tys u l))) = some x from e) (fun h => by cases h)
        | some z =>
          rw [hy, hz] at e
          have e : ((y, z) : Val t × Val (tys u l)) = x := Option.some.inj e
          rw [← e, castDV_eq hy, ← ih u ds z hz]
          exact ofTys_cons t u l y z
theorem toTup_of (l : List Ty) (ds : List DV) (x : Val (tyL l)) (e : toTup l ds = some x) : ofTup l x = ds := by
  cases l with
  | nil => cases ds with
    | nil => rfl
    | cons => cases e
  | cons t l => exact toTys_of l t ds x e
def νb (B : List Bd) (ν : Nat → Value) (i : Nat) : Value :=
  match lkBd B i with
  | some (.at_ id) => ν id
  | some .new => .slice none 0 0
  | _ => undef
structure Ext (M M' : Mt) : Prop where
  bd : ∀ i id, lkBd M.bd i = some (.at_ id) → lkBd M'.bd i = some (.at_ id)
  new : ∀ i, lkBd M.bd i = some .new → lkBd M'.bd i = some .new
  cons : M.cons <+: M'.cons
  vars : M.vars <+: M'.vars
  freed : ∀ i ∈ M.freed, i ∈ M'.freed
  len : M'.bd.length = M.bd.length
theorem Ext.refl (M : Mt) : Ext M M := ⟨fun _ _ h => h, fun _ h => h, List.prefix_rfl, List.prefix_rfl, fun _ h => h, rfl⟩
theorem Ext.trans {M M' M'' : Mt} (h : Ext M M') (k : Ext M' M'') : Ext M M'' :=
  ⟨fun i id q => k.bd i id (h.bd i id q), fun i q => k.new i (h.new i q), h.cons.trans k.cons, h.vars.trans k.vars, fun i q => k.freed i (h.freed i q), k.len.trans h.len⟩
theorem lkBd_updBd : ∀ (l : List Bd) (d : Nat) (b : Bd) (i : Nat), lkBd (updBd l d b) i = if i = d ∧ d < l.length then some b else lkBd l i
  | [], d, v, i => by simp [updBd, lkBd]
  | x :: xs, 0, v, 0 => by simp [updBd, lkBd]
  | x :: xs, 0, v, i + 1 => by simp [updBd, lkBd]
  | x :: xs, d + 1, v, 0 => by simp [updBd, lkBd]
  | x :: xs, d + 1, v, i + 1 => by simp [updBd, lkBd, lkBd_updBd xs d v i]
theorem length_updBd : ∀ (l : List Bd) (d : Nat) (b : Bd), (updBd l d b).length = l.length
  | [], _, _ => rfl
  | _ :: _, 0, _ => rfl
  | _ :: xs, d + 1, v => by simp [updBd, length_updBd xs d v]
theorem lkBd_lt : ∀ {l : List Bd} {i : Nat} {b : Bd}, lkBd l i = some b → i < l.length
  | [], _, _, h => by cases h
  | _ :: _, 0, _, _ => Nat.succ_pos _
  | _ :: _, i + 1, _, h => Nat.succ_lt_succ (lkBd_lt (by simpa [lkBd] using h))
theorem bindId_spec {M M' : Mt} {i id : Nat} (e : bindId M i id = some M') : Ext M M' ∧ lkBd M'.bd i = some (.at_ id) ∧ M'.cons = M.cons ∧ M'.vars = M.vars := by
  unfold bindId at e
  split at e <;> try (cases e; done)
  · rename_i ho
    cases e
    have hlt := lkBd_lt ho
    refine ⟨⟨fun j id' q => ?_, fun j q => ?_, List.prefix_rfl, List.prefix_rfl, fun _ q => q, length_updBd _ _ _⟩, by simp [lkBd_updBd, hlt], rfl, rfl⟩
    · simp only [lkBd_updBd]
      by_cases hj : j = i
      · subst hj; rw [ho] at q; cases q
      · simp [hj, q]
    · simp only [lkBd_updBd]
      by_cases hj : j = i
      · subst hj; rw [ho] at q; cases q
      · simp [hj, q]
  · rename_i id' ho
    split at e <;> try (cases e; done)
    rename_i hi
    cases e
    rw [eq_of_beq hi] at ho
    exact ⟨Ext.refl _, ho, rfl, rfl⟩
theorem bindNew_spec {M M' : Mt} {i : Nat} (e : bindNew M i = some M') : Ext M M' ∧ lkBd M'.bd i = some .new ∧ M'.cons = M.cons ∧ M'.vars = M.vars := by
  unfold bindNew at e
  split at e <;> try (cases e; done)
  rename_i ho
  cases e
  have hlt := lkBd_lt ho
  refine ⟨⟨fun j id' q => ?_, fun j q => ?_, List.prefix_rfl, List.prefix_rfl, fun _ q => q, length_updBd _ _ _⟩, by simp [lkBd_updBd, hlt], rfl, rfl⟩
  · simp only [lkBd_updBd]
    by_cases hj : j = i
    · subst hj; rw [ho] at q; cases q
    · simp [hj, q]
  · simp only [lkBd_updBd]
    by_cases hj : j = i
    · subst hj; rw [ho] at q; cases q
    · simp [hj, q]
def kin : Blk → Blk → Prop
  | .row t _ false xs, B => B = .row t 0 false xs
  | .row t g true xs, B => B = .row t g true xs
  | .map k v es, B => B = .map k v es
  | .cells _, B => ∃ cs', B = .cells cs'
  | .dead, B => B = .dead
structure Fin (ν : Nat → Value) (h : List Blk) (w : World) (M : Mt) (h' : List Blk) : Prop where
  at_ : ∀ i id, lkBd M.bd i = some (.at_ id) → kin (lkB h id) (lkB h' i)
  new : ∀ i, lkBd M.bd i = some .new → ∃ t, lkB h' i = .row t 0 false []
  out : ∀ i, (∀ id, lkBd M.bd i ≠ some (.at_ id)) → lkBd M.bd i ≠ some .new → lkB h' i = .dead
  freed : ∀ id ∈ M.freed, ∀ i, lkBd M.bd i ≠ some (.at_ id)
  inj : ∀ i j id, lkBd M.bd i = some (.at_ id) → lkBd M.bd j = some (.at_ id) → i = j
theorem Fin.live {M : Mt} (F : Fin ν h w M h') {b : Nat} (hb : Live (νb M.bd ν) h' b) : ∃ i id, lkBd M.bd i = some (.at_ id) ∧ (lkB h id).live = true ∧ blkNo (ν id) = some b := by
  obtain ⟨i, hl, hn⟩ := hb
  cases hB : lkBd M.bd i with
  | none => rw [F.out i (by simp [hB]) (by simp [hB])] at hl; cases hl
  | some bd =>
    cases bd with
    | open_ => rw [F.out i (by simp [hB]) (by simp [hB])] at hl; cases hl
    | new => simp [νb, hB, blkNo] at hn
    | at_ id =>
      refine ⟨i, id, hB, ?_, by simpa [νb, hB] using hn⟩
      have hk := F.at_ i id hB
      cases hB' : lkB h id with
      | dead => rw [hB'] at hk; rw [show lkB h' i = _ from hk] at hl; cases hl
      | cells => rfl
      | map => rfl
      | row t g fz xs =>
        cases fz with
        | false => rfl
        | true => rw [hB'] at hk; rw [show lkB h' i = _ from hk] at hl; cases hl
theorem Fin.subL {M : Mt} (F : Fin ν h w M h') (b : Nat) (hb : Live (νb M.bd ν) h' b) : Live ν h b := by
  obtain ⟨i, id, _, h2, h3⟩ := F.live hb
  exact ⟨id, h2, h3⟩
theorem Fin.sub {M : Mt} (F : Fin ν h w M h') (b : Nat) (hb : Av (νb M.bd ν) h' b) : Av ν h b := hb.imp_left (F.subL b)
theorem datum_ok (H : HR ν h w) {M : Mt} (F : Fin ν h w M h') {t : Ty} {v : AV} {u : Value} {x : Val t} (hf : ∀ i ∈ freed1 h v, i ∈ M.freed) (e : unflatAll t [snap1 h v] = some x) (hv : VR ν h w v u) :
    VR (νb M.bd ν) h' w (encDV ⟨t, x⟩) u := by
  have main : ∀ (hag : v.isAgg = false) (htu : v.isTup = false), CR w (Av (νb M.bd ν) h') t x [u] := by
    intro hag htu
    have h1 := hv.one hag htu
    refine unflatAll_CR e ⟨snap1_VRs H F.sub h1 fun id b hc hl hb => ?_, trivial⟩
    rintro (hlive | hgh)
    rotate_left
    · exact H.ghne id b hl hb hgh
    obtain ⟨i, id', h2, h3, h4⟩ := F.live hlive
    have hid : id = id' := H.inj id id' b hl h3 hb h4
    subst hid
    refine F.freed id (hf id ?_) i h2
    rcases hc with ⟨g, rfl⟩ | ⟨g, lo, n, rfl⟩ | rfl
    · obtain ⟨_, t', g', fz, xs, hl', _⟩ := h1
      rw [hl'] at hl
      cases fz with
      | true => cases hl
      | false => simp [freed1, hl']
    · obtain ⟨_, t', g', fz, xs, hl', _⟩ := h1
      rw [hl'] at hl
      cases fz with
      | true => cases hl
      | false => simp [freed1, hl']
    · simp [freed1]
  have fin : (t ≠ .unit ∧ ∀ a b, t ≠ .pair a b) → v.isAgg = false ∧ v.isTup = false := fun ⟨h1, h2⟩ => by
    constructor
    · cases v <;> try rfl
      cases t <;> first | (exact absurd rfl h1) | (exact absurd rfl (h2 _ _)) | (simp [snap1, unflatAll, unflat] at e)
    · cases v <;> try rfl
      cases t <;> first | (exact absurd rfl h1) | (exact absurd rfl (h2 _ _)) | (simp [snap1, unflatAll, unflat] at e)
  cases t with
  | unit => trivial
  | pair a b => trivial
  | bool => obtain ⟨q1, q2⟩ := fin ⟨by simp, by simp⟩; exact enc_VR (main q1 q2)
  | int k => obtain ⟨q1, q2⟩ := fin ⟨by simp, by simp⟩; exact enc_VR (main q1 q2)
  | str => obtain ⟨q1, q2⟩ := fin ⟨by simp, by simp⟩; exact enc_VR (main q1 q2)
  | slice t => obtain ⟨q1, q2⟩ := fin ⟨by simp, by simp⟩; exact enc_VR (main q1 q2)
  | map k v => obtain ⟨q1, q2⟩ := fin ⟨by simp, by simp⟩; exact enc_VR (main q1 q2)
  | ptr t => obtain ⟨q1, q2⟩ := fin ⟨by simp, by simp⟩; exact enc_VR (main q1 q2)
theorem prefix_drop {α : Type} {l C : List α} {d : α} (h : (l ++ [d]) <+: C) : C.drop l.length = d :: C.drop (l.length + 1) := by
  obtain ⟨t, rfl⟩ := h
  simp [List.append_assoc]
theorem νb_at {B : List Bd} {i id : Nat} (h : lkBd B i = some (.at_ id)) : νb B ν i = ν id := by simp [νb, h]
theorem νb_new {B : List Bd} {i : Nat} (h : lkBd B i = some .new) : νb B ν i = .slice none 0 0 := by simp [νb, h]
theorem matchCaps_spec : ∀ (ps : List (Nat × Nat)) (vs : List AV) (us : List Value) (M M1 : Mt), matchCaps h ps vs M = some M1 → Ext M M1 ∧ M1.cons = M.cons ∧ M1.vars = M.vars ∧
    ∀ Mf, Ext M1 Mf → Fin ν h w Mf h' → All2 (VR0 ν h w) vs us → All2 (VR0 (νb Mf.bd ν) h' w) (ps.map fun c => .box c.1 c.2) us
  | [], [], us, M, M1, e => by
    cases e
    exact ⟨Ext.refl _, rfl, rfl, fun Mf _ _ hv => by cases us with | nil => trivial | cons => exact hv.elim⟩
  | [], _ :: _, _, _, _, e => by cases e
  | _ :: _, [], _, _, _, e => by cases e
  | (i, o) :: ps, v :: vs, us, M, M1, e => by
    cases v <;> try (simp [matchCaps] at e; done)
    rename_i id off
    simp only [matchCaps] at e
    split at e <;> try (cases e; done)
    rename_i ho
    split at e <;> try (cases e; done)
    rename_i cs hl
    split at e <;> try (cases e; done)
    rename_i M2 hb
    obtain ⟨e1, b1, c1, v1⟩ := bindId_spec hb
    obtain ⟨e2, c2, v2, _⟩ := matchCaps_spec ps vs us M2 M1 e
    refine ⟨e1.trans e2, c2.trans c1, v2.trans v1, fun Mf he F hv => ?_⟩
    cases us with
    | nil => exact hv.elim
    | cons u us =>
      refine ⟨?_, (matchCaps_spec ps vs us M2 M1 e).2.2.2 Mf he F hv.2⟩
      obtain ⟨cs', b, h1, h2, h3⟩ := hv.1
      have hat := he.bd i id (e2.bd i id b1)
      have hk := F.at_ i id hat
      rw [hl] at hk
      obtain ⟨cs2, hk⟩ := hk
      exact ⟨cs2, b, hk, (νb_at hat).trans h2, by rw [eq_of_beq ho]; exact h3⟩
theorem match1_spec (H : HR ν h w) {p : Pat} {v : AV} {M M1 : Mt} (e : match1 h p v M = some M1) : Ext M M1 ∧ ∀ Mf u, Ext M1 Mf → Fin ν h w Mf h' → VR ν h w v u →
    VR (νb Mf.bd ν) h' w (inst1 p ⟨Mf.cons.drop M.cons.length, Mf.vars.drop M.vars.length⟩).1 u ∧
      (inst1 p ⟨Mf.cons.drop M.cons.length, Mf.vars.drop M.vars.length⟩).2 = ⟨Mf.cons.drop M1.cons.length, Mf.vars.drop M1.vars.length⟩ := by
  cases p with
  | any => cases e; exact ⟨Ext.refl _, fun Mf u _ _ _ => ⟨trivial, rfl⟩⟩
  | con t =>
    simp only [match1] at e
    split at e <;> try (cases e; done)
    rename_i x hx
    cases e
    refine ⟨⟨fun _ _ q => q, fun _ q => q, List.prefix_append _ _, List.prefix_rfl, fun _ q => List.mem_append_right _ q, rfl⟩, fun Mf u he F hv => ?_⟩
    have hd := prefix_drop he.cons
    simp only [inst1, hd]
    exact ⟨datum_ok H F (fun i hi => he.freed i (List.mem_append_left _ hi)) hx hv, by simp⟩
  | var t =>
    simp only [match1] at e
    split at e <;> try (cases e; done)
    rename_i x hx
    cases e
    refine ⟨⟨fun _ _ q => q, fun _ q => q, List.prefix_rfl, List.prefix_append _ _, fun _ q => List.mem_append_right _ q, rfl⟩, fun Mf u he F hv => ?_⟩
    have hd := prefix_drop he.vars
    simp only [inst1, hd]
    exact ⟨datum_ok H F (fun i hi => he.freed i (List.mem_append_left _ hi)) hx hv, by simp⟩
  | own i =>
    simp only [match1] at e
    split at e <;> try (cases e; done)
    · rename_i id g
      split at e <;> try (cases e; done)
      rename_i t g' xs hl
      split at e <;> try (cases e; done)
      rename_i hg
      obtain ⟨e1, b1, c1, v1⟩ := bindId_spec e
      refine ⟨e1, fun Mf u he F hv => ⟨?_, by simp only [inst1, c1, v1]⟩⟩
      have hat := he.bd i id b1
      have hk := F.at_ i id hat
      rw [hl] at hk
      obtain ⟨ho, t2, g2, fz2, xs2, hl2, _, hq⟩ := hv
      rw [hl] at hl2; cases hl2
      exact ⟨ho, t, 0, false, xs, hk, Nat.le_refl _, fun _ => (hq (eq_of_beq hg)).trans (νb_at hat).symm⟩
    · obtain ⟨e1, b1, c1, v1⟩ := bindNew_spec e
      refine ⟨e1, fun Mf u he F hv => ⟨?_, by simp only [inst1, c1, v1]⟩⟩
      have hnw := he.new i b1
      obtain ⟨t, hk⟩ := F.new i hnw
      have hu : u = .slice none 0 0 := hv
      exact ⟨by rw [hu]; rfl, t, 0, false, [], hk, Nat.le_refl _, fun _ => hu.trans (νb_new hnw).symm⟩
  | omp i =>
    simp only [match1] at e
    split at e <;> try (cases e; done)
    rename_i id
    split at e <;> try (cases e; done)
    rename_i k v' es hl
    obtain ⟨e1, b1, c1, v1⟩ := bindId_spec e
    refine ⟨e1, fun Mf u he F hv => ⟨?_, by simp only [inst1, c1, v1]⟩⟩
    have hat := he.bd i id b1
    have hk := F.at_ i id hat
    rw [hl] at hk
    obtain ⟨ho, k2, v2, es2, hl2, hq⟩ := hv
    exact ⟨ho, k, v', es, hk, hq.trans (νb_at hat).symm⟩
  | box i off =>
    simp only [match1] at e
    split at e <;> try (cases e; done)
    rename_i id off'
    split at e <;> try (cases e; done)
    rename_i hoff
    split at e <;> try (cases e; done)
    rename_i cs hl
    obtain ⟨e1, b1, c1, v1⟩ := bindId_spec e
    refine ⟨e1, fun Mf u he F hv => ⟨?_, by simp only [inst1, c1, v1]⟩⟩
    have hat := he.bd i id b1
    have hk := F.at_ i id hat
    rw [hl] at hk
    obtain ⟨cs2, hk⟩ := hk
    obtain ⟨cs', b, h1, h2, h3⟩ := hv
    exact ⟨cs2, b, hk, (νb_at hat).trans h2, by rw [eq_of_beq hoff]; exact h3⟩
  | nils =>
    simp only [match1] at e
    split at e <;> try (cases e; done)
    cases e
    exact ⟨Ext.refl _, fun Mf u _ _ hv => ⟨hv, rfl⟩⟩
  | nilp =>
    simp only [match1] at e
    split at e <;> try (cases e; done)
    cases e
    exact ⟨Ext.refl _, fun Mf u _ _ hv => ⟨hv, rfl⟩⟩
  | nilfn =>
    simp only [match1] at e
    split at e <;> try (cases e; done)
    cases e
    exact ⟨Ext.refl _, fun Mf u _ _ hv => ⟨hv, rfl⟩⟩
  | fn f caps =>
    simp only [match1] at e
    split at e <;> try (cases e; done)
    rename_i f' vs
    split at e <;> try (cases e; done)
    rename_i hf
    obtain ⟨e1, c1, v1, _⟩ := matchCaps_spec (ν := ν) (w := w) (h' := h') caps vs [] M M1 e
    refine ⟨e1, fun Mf u he F hv => ⟨?_, by simp only [inst1, c1, v1]⟩⟩
    obtain ⟨fs, cs, rfl, q1, q2⟩ := hv
    have := (matchCaps_spec (ν := ν) (w := w) (h' := h') caps vs cs.toList M M1 e).2.2.2 Mf he F q2
    exact ⟨fs, cs, by rw [eq_of_beq hf], by rw [q1.nil_left]; trivial, this⟩
def rest (Mf M : Mt) : It := ⟨Mf.cons.drop M.cons.length, Mf.vars.drop M.vars.length⟩
theorem rest_eq {Mf M M1 : Mt} (h1 : M1.cons = M.cons) (h2 : M1.vars = M.vars) : rest Mf M = rest Mf M1 := by simp only [rest, h1, h2]
theorem match1_take {p : Pat} {v : AV} {M M1 : Mt} (e : match1 h p v M = some M1) : Ext M M1 ∧ ∀ Mf, Ext M1 Mf → (inst1 p (rest Mf M)).2 = rest Mf M1 := by
  cases p with
  | any => cases e; exact ⟨Ext.refl _, fun Mf _ => rfl⟩
  | con t =>
    simp only [match1] at e
    split at e <;> try (cases e; done)
    rename_i x hx
    cases e
    refine ⟨⟨fun _ _ q => q, fun _ q => q, List.prefix_append _ _, List.prefix_rfl, fun _ q => List.mem_append_right _ q, rfl⟩, fun Mf he => ?_⟩
    have hd := prefix_drop he.cons
    simp only [rest, inst1, hd]; simp
  | var t =>
    simp only [match1] at e
    split at e <;> try (cases e; done)
    rename_i x hx
    cases e
    refine ⟨⟨fun _ _ q => q, fun _ q => q, List.prefix_rfl, List.prefix_append _ _, fun _ q => List.mem_append_right _ q, rfl⟩, fun Mf he => ?_⟩
    have hd := prefix_drop he.vars
    simp only [rest, inst1, hd]; simp
  | own i =>
    simp only [match1] at e
    split at e <;> try (cases e; done)
    · split at e <;> try (cases e; done)
      split at e <;> try (cases e; done)
      obtain ⟨e1, b1, c1, v1⟩ := bindId_spec e
      exact ⟨e1, fun Mf he => rest_eq c1 v1⟩
    · obtain ⟨e1, b1, c1, v1⟩ := bindNew_spec e
      exact ⟨e1, fun Mf he => rest_eq c1 v1⟩
  | omp i =>
    simp only [match1] at e
    split at e <;> try (cases e; done)
    split at e <;> try (cases e; done)
    obtain ⟨e1, b1, c1, v1⟩ := bindId_spec e
    exact ⟨e1, fun Mf he => rest_eq c1 v1⟩
  | box i off =>
    simp only [match1] at e
    split at e <;> try (cases e; done)
    split at e <;> try (cases e; done)
    split at e <;> try (cases e; done)
    obtain ⟨e1, b1, c1, v1⟩ := bindId_spec e
    exact ⟨e1, fun Mf he => rest_eq c1 v1⟩
  | nils =>
    simp only [match1] at e
    split at e <;> try (cases e; done)
    cases e; exact ⟨Ext.refl _, fun Mf _ => rfl⟩
  | nilp =>
    simp only [match1] at e
    split at e <;> try (cases e; done)
    cases e; exact ⟨Ext.refl _, fun Mf _ => rfl⟩
  | nilfn =>
    simp only [match1] at e
    split at e <;> try (cases e; done)
    cases e; exact ⟨Ext.refl _, fun Mf _ => rfl⟩
  | fn f caps =>
    simp only [match1] at e
    split at e <;> try (cases e; done)
    rename_i f' vs
    split at e <;> try (cases e; done)
    obtain ⟨e1, c1, v1, _⟩ := matchCaps_spec (ν := fun _ => undef) (w := default) (h' := []) caps vs [] M M1 e
    exact ⟨e1, fun Mf he => rest_eq c1 v1⟩
theorem instL_cons (p : Pat) (ps : List Pat) (I : It) : instL (p :: ps) I = ((inst1 p I).1 :: (instL ps (inst1 p I).2).1, (instL ps (inst1 p I).2).2) := rfl
theorem matchL_take : ∀ {ps : List Pat} {vs : List AV} {M M1 : Mt}, matchL h ps vs M = some M1 → Ext M M1 ∧ ∀ Mf, Ext M1 Mf → (instL ps (rest Mf M)).2 = rest Mf M1
  | [], vs, M, M1, e => by cases e; exact ⟨Ext.refl _, fun Mf _ => rfl⟩
  | p :: ps, vs, M, M1, e => by
    simp only [matchL] at e
    split at e <;> try (cases e; done)
    rename_i M2 h1
    obtain ⟨e1, t1⟩ := match1_take h1
    obtain ⟨e2, t2⟩ := matchL_take e
    exact ⟨e1.trans e2, fun Mf he => by rw [instL_cons, t1 Mf (e2.trans he)]; exact t2 Mf he⟩
theorem matchL_vr (H : HR ν h w) : ∀ {ps : List Pat} {vs : List AV} {M M1 : Mt}, matchL h ps vs M = some M1 → ∀ Mf, Ext M1 Mf → Fin ν h w Mf h' → ∀ f : Nat → Value, (∀ k, VR ν h w (lk vs k) (f k)) →
    ∀ k, VR (νb Mf.bd ν) h' w (lk (instL ps (rest Mf M)).1 k) (f k)
  | [], vs, M, M1, e, Mf, _, _, f, _, k => trivial
  | p :: ps, vs, M, M1, e, Mf, he, F, f, hf, k => by
    simp only [matchL] at e
    split at e <;> try (cases e; done)
    rename_i M2 h1
    obtain ⟨e1, t1⟩ := match1_take h1
    obtain ⟨e2, t2⟩ := matchL_take e
    rw [instL_cons, t1 Mf (e2.trans he)]
    cases k with
    | zero => exact ((match1_spec H h1).2 Mf (f 0) (e2.trans he) F (hf 0)).1
    | succ k =>
      have ht : ∀ k, lk vs.tail k = lk vs (k + 1) := fun k => by cases vs <;> rfl
      exact matchL_vr H e Mf he F (fun k => f (k + 1)) (fun k => by rw [ht]; exact hf (k + 1)) k
theorem matchCells_take : ∀ {ps : List Pat} {vs : List AV} {M M1 : Mt}, matchCells h ps vs M = some M1 → Ext M M1 ∧ ∀ Mf, Ext M1 Mf → (instL ps (rest Mf M)).2 = rest Mf M1
  | [], [], M, M1, e => by cases e; exact ⟨Ext.refl _, fun Mf _ => rfl⟩
  | [], _ :: _, M, M1, e => by cases e
  | _ :: _, [], M, M1, e => by cases e
  | p :: ps, v :: vs, M, M1, e => by
    simp only [matchCells] at e
    split at e <;> try (cases e; done)
    rename_i M2 h1
    obtain ⟨e1, t1⟩ := match1_take h1
    obtain ⟨e2, t2⟩ := matchCells_take e
    exact ⟨e1.trans e2, fun Mf he => by rw [instL_cons, t1 Mf (e2.trans he)]; exact t2 Mf he⟩
theorem inst1_flat (p : Pat) (I : It) : (inst1 p I).1.isAgg = false ∧ (inst1 p I).1.isTup = false := by
  have henc : ∀ d : DV, (encDV d).isAgg = false ∧ (encDV d).isTup = false := fun d => by
    obtain ⟨t, x⟩ := d
    cases t <;> exact ⟨rfl, rfl⟩
  cases p <;> simp only [inst1] <;> try exact ⟨rfl, rfl⟩
  · split <;> first | exact henc _ | exact ⟨rfl, rfl⟩
  · split <;> first | exact henc _ | exact ⟨rfl, rfl⟩
theorem matchCells_vr (H : HR ν h w) : ∀ {ps : List Pat} {vs : List AV} {us : List Value} {M M1 : Mt}, matchCells h ps vs M = some M1 → ∀ Mf, Ext M1 Mf → Fin ν h w Mf h' → All2 (VRc ν h w) vs us →
    All2 (VRc (νb Mf.bd ν) h' w) (instL ps (rest Mf M)).1 us
  | [], [], us, M, M1, e, Mf, _, _, hv => by cases us with | nil => trivial | cons => exact hv.elim
  | [], _ :: _, _, M, M1, e, _, _, _, _ => by cases e
  | _ :: _, [], _, M, M1, e, _, _, _, _ => by cases e
  | p :: ps, v :: vs, us, M, M1, e, Mf, he, F, hv => by
    simp only [matchCells] at e
    split at e <;> try (cases e; done)
    rename_i M2 h1
    obtain ⟨e1, t1⟩ := match1_take h1
    obtain ⟨e2, t2⟩ := matchCells_take e
    rw [instL_cons, t1 Mf (e2.trans he)]
    cases us with
    | nil => exact hv.elim
    | cons u us =>
      have h2 := ((match1_spec H h1).2 Mf u (e2.trans he) F hv.1.1.up).1
      have hfl := inst1_flat p (rest Mf M)
      exact ⟨⟨h2.one hfl.1 hfl.2, hv.1.2⟩, matchCells_vr H e Mf he F hv.2⟩
theorem ext_cons (M : Mt) (d : DV) : Ext M { M with cons := M.cons ++ [d] } := ⟨fun _ _ q => q, fun _ q => q, List.prefix_append _ _, List.prefix_rfl, fun _ q => q, rfl⟩
theorem ext_vars (M : Mt) (d : DV) : Ext M { M with vars := M.vars ++ [d] } := ⟨fun _ _ q => q, fun _ q => q, List.prefix_rfl, List.prefix_append _ _, fun _ q => q, rfl⟩
theorem matchB_take {p : BPat} {i : Nat} {M M1 : Mt} (e : matchB h p i M = some M1) : Ext M M1 ∧ ∀ Mf, Ext M1 Mf → (instB p (rest Mf M)).2 = rest Mf M1 ∧
    ((∃ id, lkBd M.bd i = some (.at_ id) ∧ kin (lkB h id) (instB p (rest Mf M)).1) ∨ (lkBd M.bd i = some .new ∧ ∃ t, (instB p (rest Mf M)).1 = .row t 0 false [])) := by
  cases p with
  | dead =>
    simp only [matchB] at e
    split at e <;> try (cases e; done)
    rename_i id hb
    split at e <;> try (cases e; done)
    rename_i hl
    cases e
    exact ⟨Ext.refl _, fun Mf _ => ⟨rfl, .inl ⟨id, hb, by rw [hl]; rfl⟩⟩⟩
  | cells ps =>
    simp only [matchB] at e
    split at e <;> try (cases e; done)
    rename_i id hb
    split at e <;> try (cases e; done)
    rename_i cs hl
    obtain ⟨e1, t1⟩ := matchCells_take e
    exact ⟨e1, fun Mf he => ⟨t1 Mf he, .inl ⟨id, hb, by rw [hl]; exact ⟨_, rfl⟩⟩⟩⟩
  | rowc t =>
    simp only [matchB] at e
    split at e <;> try (cases e; done)
    · rename_i id hb
      split at e <;> try (cases e; done)
      rename_i t' g xs hl
      split at e <;> try (cases e; done)
      cases e
      refine ⟨ext_cons _ _, fun Mf he => ?_⟩
      have hd := prefix_drop he.cons
      simp only [rest, instB, hd]
      exact ⟨by simp, .inl ⟨id, hb, by rw [hl]; rfl⟩⟩
    · rename_i hb
      cases e
      refine ⟨ext_cons _ _, fun Mf he => ?_⟩
      have hd := prefix_drop he.cons
      simp only [rest, instB, hd]
      exact ⟨by simp, .inr ⟨hb, t, rfl⟩⟩
  | rowf t g =>
    simp only [matchB] at e
    split at e <;> try (cases e; done)
    rename_i id hb
    split at e <;> try (cases e; done)
    rename_i t' g' xs hl
    split at e <;> try (cases e; done)
    split at e <;> try (cases e; done)
    rename_i hg _
    subst hg
    cases e
    refine ⟨ext_cons _ _, fun Mf he => ?_⟩
    have hd := prefix_drop he.cons
    simp only [rest, instB, hd]
    exact ⟨by simp, .inl ⟨id, hb, by rw [hl]; rfl⟩⟩
  | rowv t =>
    simp only [matchB] at e
    split at e <;> try (cases e; done)
    · rename_i id hb
      split at e <;> try (cases e; done)
      rename_i t' g xs hl
      split at e <;> try (cases e; done)
      cases e
      refine ⟨ext_vars _ _, fun Mf he => ?_⟩
      have hd := prefix_drop he.vars
      simp only [rest, instB, hd]
      exact ⟨by simp, .inl ⟨id, hb, by rw [hl]; rfl⟩⟩
    · rename_i hb
      cases e
      refine ⟨ext_vars _ _, fun Mf he => ?_⟩
      have hd := prefix_drop he.vars
      simp only [rest, instB, hd]
      exact ⟨by simp, .inr ⟨hb, t, rfl⟩⟩
  | mapc k v =>
    simp only [matchB] at e
    split at e <;> try (cases e; done)
    rename_i id hb
    split at e <;> try (cases e; done)
    rename_i k' v' es hl
    split at e <;> try (cases e; done)
    cases e
    refine ⟨ext_cons _ _, fun Mf he => ?_⟩
    have hd := prefix_drop he.cons
    simp only [rest, instB, hd]
    exact ⟨by simp, .inl ⟨id, hb, by rw [hl]; rfl⟩⟩
  | mapv k v =>
    simp only [matchB] at e
    split at e <;> try (cases e; done)
    rename_i id hb
    split at e <;> try (cases e; done)
    rename_i k' v' es hl
    split at e <;> try (cases e; done)
    cases e
    refine ⟨ext_vars _ _, fun Mf he => ?_⟩
    have hd := prefix_drop he.vars
    simp only [rest, instB, hd]
    exact ⟨by simp, .inl ⟨id, hb, by rw [hl]; rfl⟩⟩
theorem matchB_vr (H : HR ν h w) {p : BPat} {i id : Nat} {M M1 : Mt} {cs : List AV} (e : matchB h p i M = some M1) (hb : lkBd M.bd i = some (.at_ id)) (hl : lkB h id = .cells cs) {Mf : Mt} (he : Ext M1 Mf) (F : Fin ν h w Mf h') {us : List Value} (hv : All2 (VRc ν h w) cs us) :
    ∃ cs', (instB p (rest Mf M)).1 = .cells cs' ∧ All2 (VRc (νb Mf.bd ν) h' w) cs' us := by
  cases p with
  | cells ps =>
    simp only [matchB, hb, hl] at e
    exact ⟨_, rfl, matchCells_vr H e Mf he F hv⟩
  | dead => simp [matchB, hb, hl] at e
  | rowc t => simp [matchB, hb, hl] at e
  | rowf t g => simp [matchB, hb, hl] at e
  | rowv t => simp [matchB, hb, hl] at e
  | mapc k v => simp [matchB, hb, hl] at e
  | mapv k v => simp [matchB, hb, hl] at e
theorem instH_cons (p : BPat) (ps : List BPat) (I : It) : instH (p :: ps) I = ((instB p I).1 :: (instH ps (instB p I).2).1, (instH ps (instB p I).2).2) := rfl
theorem instH_length : ∀ (ps : List BPat) (I : It), (instH ps I).1.length = ps.length
  | [], _ => rfl
  | p :: ps, I => by rw [instH_cons]; simp [instH_length ps]
theorem matchH_take : ∀ {ps : List BPat} {i : Nat} {M M1 : Mt}, matchH h ps i M = some M1 → Ext M M1 ∧ ∀ Mf, Ext M1 Mf → ∀ k, k < ps.length →
    (∃ id, lkBd Mf.bd (i + k) = some (.at_ id) ∧ kin (lkB h id) (lkB (instH ps (rest Mf M)).1 k)) ∨ (lkBd Mf.bd (i + k) = some .new ∧ ∃ t, lkB (instH ps (rest Mf M)).1 k = .row t 0 false [])
  | [], i, M, M1, e => by cases e; exact ⟨Ext.refl _, fun Mf _ k hk => by simp at hk⟩
  | p :: ps, i, M, M1, e => by
    simp only [matchH] at e
    split at e <;> try (cases e; done)
    rename_i M2 h1
    obtain ⟨e1, t1⟩ := matchB_take h1
    obtain ⟨e2, t2⟩ := matchH_take e
    refine ⟨e1.trans e2, fun Mf he k hk => ?_⟩
    obtain ⟨t3, t4⟩ := t1 Mf (e2.trans he)
    rw [instH_cons, t3]
    cases k with
    | zero =>
      rcases t4 with ⟨id, q1, q2⟩ | ⟨q1, q2⟩
      · exact .inl ⟨id, (e1.trans (e2.trans he)).bd _ _ q1, q2⟩
      · exact .inr ⟨(e1.trans (e2.trans he)).new _ q1, q2⟩
    | succ k =>
      have := t2 Mf he k (by simpa using hk)
      rw [show i + (k + 1) = i + 1 + k by omega]
      exact this
theorem matchH_vr (H : HR ν h w) : ∀ {ps : List BPat} {i : Nat} {M M1 : Mt}, matchH h ps i M = some M1 → ∀ Mf, Ext M1 Mf → Fin ν h w Mf h' → ∀ k id cs us, k < ps.length → lkBd Mf.bd (i + k) = some (.at_ id) → lkB h id = .cells cs → All2 (VRc ν h w) cs us →
    ∃ cs', lkB (instH ps (rest Mf M)).1 k = .cells cs' ∧ All2 (VRc (νb Mf.bd ν) h' w) cs' us
  | [], i, M, M1, e, Mf, _, _, k, _, _, _, hk, _, _, _ => by simp at hk
  | p :: ps, i, M, M1, e, Mf, he, F, k, id, cs, us, hk, hb, hl, hv => by
    simp only [matchH] at e
    split at e <;> try (cases e; done)
    rename_i M2 h1
    obtain ⟨e1, t1⟩ := matchB_take h1
    obtain ⟨e2, t2⟩ := matchH_take e
    obtain ⟨t3, t4⟩ := t1 Mf (e2.trans he)
    rw [instH_cons, t3]
    cases k with
    | zero =>
      rcases t4 with ⟨id', q1, q2⟩ | ⟨q1, q2⟩
      · have := (e1.trans (e2.trans he)).bd _ _ q1
        have hb' : lkBd Mf.bd i = some (.at_ id) := hb
        rw [this] at hb'
        cases hb'
        exact matchB_vr H h1 q1 hl (e2.trans he) F hv
      · have := (e1.trans (e2.trans he)).new _ q1
        have hb' : lkBd Mf.bd i = some (.at_ id) := hb
        rw [this] at hb'
        cases hb'
    | succ k => exact matchH_vr H e Mf he F k id cs us (by simpa using hk) (by rw [show i + 1 + k = i + (k + 1) by omega]; exact hb) hl hv
theorem idsOf_mem : ∀ {l : List Bd} {i id : Nat}, lkBd l i = some (.at_ id) → id ∈ idsOf l
  | [], _, _, h => by cases h
  | x :: l, 0, id, h => by
    simp only [lkBd, Option.some.injEq] at h
    subst h; simp [idsOf]
  | x :: l, i + 1, id, h => by
    have := idsOf_mem (l := l) (i := i) (id := id) h
    cases x <;> simp [idsOf, this]
theorem distinct_inj : ∀ {l : List Bd} {i j id : Nat}, distinct (idsOf l) = true → lkBd l i = some (.at_ id) → lkBd l j = some (.at_ id) → i = j
  | [], _, _, _, _, h, _ => by cases h
  | x :: l, 0, 0, _, _, _, _ => rfl
  | x :: l, 0, j + 1, id, hd, h1, h2 => by
    simp only [lkBd, Option.some.injEq] at h1
    subst h1
    simp only [idsOf, distinct, Bool.and_eq_true] at hd
    have := idsOf_mem (l := l) (i := j) (id := id) h2
    simp [this] at hd
  | x :: l, i + 1, 0, id, hd, h1, h2 => by
    simp only [lkBd, Option.some.injEq] at h2
    subst h2
    simp only [idsOf, distinct, Bool.and_eq_true] at hd
    have := idsOf_mem (l := l) (i := i) (id := id) h1
    simp [this] at hd
  | x :: l, i + 1, j + 1, id, hd, h1, h2 => by
    have hd' : distinct (idsOf l) = true := by
      cases x <;> simp only [idsOf, distinct, Bool.and_eq_true] at hd <;> first | exact hd | exact hd.2
    rw [distinct_inj (l := l) hd' h1 h2]
theorem startBd_lk {pin n i : Nat} (hi : i < pin) (hn : pin ≤ n) : lkBd (startBd pin n) i = some (.at_ i) := by
  have key : ∀ (l : List Bd) (k : Nat), lkBd l k = l[k]? := by
    intro l
    induction l with
    | nil => intro k; simp [lkBd]
    | cons x l ih => intro k; cases k with
      | zero => rfl
      | succ k => simpa [lkBd] using ih k
  rw [key, startBd, List.getElem?_map, List.getElem?_range (by omega)]
  simp [hi]
theorem gens0_spec : ∀ {pin : Nat}, gens0 h pin = true → ∀ i, i < pin → ∀ t g xs, lkB h i = .row t g false xs → g = 0
  | 0, _, i, hi, _, _, _, _ => by omega
  | pin + 1, hg, i, hi, t, g, xs, hl => by
    simp only [gens0] at hg
    split at hg <;> try (cases hg; done)
    rename_i hne
    rcases Nat.lt_succ_iff_lt_or_eq.1 hi with h1 | rfl
    · exact gens0_spec hg i h1 t g xs hl
    · cases g with
      | zero => rfl
      | succ g => exact absurd hl (hne _ _ _)
theorem lk_pad : ∀ (l : List AV) (n k : Nat), lk (l ++ List.replicate n .any) k = lk l k
  | [], 0, _ => rfl
  | [], n + 1, 0 => rfl
  | [], n + 1, k + 1 => by simpa [List.replicate_succ, lk] using lk_pad [] n k
  | x :: l, n, 0 => rfl
  | x :: l, n, k + 1 => by simpa [lk] using lk_pad l n k
theorem instL_length : ∀ (ps : List Pat) (I : It), (instL ps I).1.length = ps.length
  | [], _ => rfl
  | p :: ps, I => by rw [instL_cons]; simp [instL_length ps]
theorem match_ok : MatchOk := by
  intro T pin cs vs S p v ν a w e H
  unfold matchT at e
  split at e <;> try (cases e; done)
  rename_i hc
  simp only [Bool.and_eq_true, decide_eq_true_eq] at hc
  obtain ⟨c1, c2, c3, c4⟩ := hc
  split at e <;> try (cases e; done)
  rename_i M0 hL
  split at e <;> try (cases e; done)
  rename_i M hH
  split at e <;> try (cases e; done)
  rename_i hd
  simp only [Bool.and_eq_true, List.all_eq_true] at hd
  obtain ⟨d1, d2⟩ := hd
  split at e <;> try (cases e; done)
  rename_i p' v' hp hv
  cases e
  have ep : ofTup cs p = M.cons := toTup_of cs _ _ hp
  have ev : ofTup vs v = M.vars := toTup_of vs _ _ hv
  obtain ⟨eL, tL⟩ := matchL_take hL
  obtain ⟨eH, tH⟩ := matchH_take hH
  -- the state of the pattern
  have hI0 : ({ cons := ofTup cs p, vars := ofTup vs v } : It) = rest M { bd := startBd pin T.heap.length, cons := [], vars := [], freed := [] } := by
    simp [rest, ep, ev]
  have hinst : instT T cs vs p v = { t := (instL T.slots (rest M { bd := startBd pin T.heap.length, cons := [], vars := [], freed := [] })).1 ++ List.replicate (T.n - T.slots.length) .any, h := (instH T.heap (rest M M0)).1 } := by
    unfold instT
    rw [hI0]
    have := tL M eH
    show (St.mk _ _) = _
    rw [show (instL T.slots (rest M { bd := startBd pin T.heap.length, cons := [], vars := [], freed := [] })).2 = rest M M0 from this]
  rw [hinst]
  have hblen : M.bd.length = T.heap.length := by rw [eH.len, eL.len]; simp [startBd]
  have hhlen : (instH T.heap (rest M M0)).1.length = T.heap.length := instH_length _ _
  have F : Fin ν S.h w M (instH T.heap (rest M M0)).1 := by
    refine ⟨fun i id hb => ?_, fun i hb => ?_, fun i h1 h2 => ?_, fun id hid i hb => ?_, fun i j id => distinct_inj d1⟩
    · have hi : i < T.heap.length := by rw [← hblen]; exact lkBd_lt hb
      rcases tH M (Ext.refl _) i hi with ⟨id', q1, q2⟩ | ⟨q1, _⟩
      · rw [Nat.zero_add, hb] at q1; cases q1; exact q2
      · rw [Nat.zero_add, hb] at q1; cases q1
    · have hi : i < T.heap.length := by rw [← hblen]; exact lkBd_lt hb
      rcases tH M (Ext.refl _) i hi with ⟨id', q1, q2⟩ | ⟨q1, q2⟩
      · rw [Nat.zero_add, hb] at q1; cases q1
      · exact q2
    · rcases Nat.lt_or_ge i T.heap.length with hi | hi
      · rcases tH M (Ext.refl _) i hi with ⟨id', q1, q2⟩ | ⟨q1, q2⟩
        · rw [Nat.zero_add] at q1; exact absurd q1 (h1 id')
        · rw [Nat.zero_add] at q1; exact absurd q1 h2
      · exact lkB_ge _ _ (by rw [hhlen]; exact hi)
    · have := d2 id hid
      have hm := idsOf_mem hb
      simp [hm] at this
  have hHR : HR (νb M.bd ν) (instH T.heap (rest M M0)).1 w := by
    refine ⟨fun i => ?_, fun i j b hi hj hbi hbj => ?_, H.heap.ghlt, fun i b hl hb hg => ?_⟩
    rotate_left 2
    · obtain ⟨id, q1, q2⟩ := F.subL b ⟨i, hl, hb⟩
      exact H.heap.ghne id b q1 q2 hg
    · cases hb : lkBd M.bd i with
      | none => rw [F.out i (by simp [hb]) (by simp [hb])]; trivial
      | some x =>
        cases x with
        | open_ => rw [F.out i (by simp [hb]) (by simp [hb])]; trivial
        | new =>
          obtain ⟨t, ht⟩ := F.new i hb
          rw [ht]
          exact ⟨none, 0, νb_new hb, Nat.le_refl _, .inl ⟨rfl, rfl⟩⟩
        | at_ id =>
          have hk := F.at_ i id hb
          have hB := H.heap.blk id
          cases hl : lkB S.h id with
          | dead => rw [hl] at hk; rw [show lkB _ i = _ from hk]; trivial
          | cells c =>
            rw [hl] at hB
            obtain ⟨b, arr, e', q1, q2, q3⟩ := hB
            have hi : i < T.heap.length := by rw [← hblen]; exact lkBd_lt hb
            obtain ⟨cs', q4, q5⟩ := matchH_vr H.heap hH M (Ext.refl _) F i id c arr.toList hi (by rw [Nat.zero_add]; exact hb) hl q3
            rw [q4]
            exact ⟨b, arr, e', (νb_at hb).trans q1, q2, q5⟩
          | row t g fz xs =>
            rw [hl] at hk hB
            cases fz with
            | true =>
              rw [show lkB _ i = _ from hk]
              show CR w _ (.slice t) xs [_]
              rw [νb_at hb]
              exact CR.mono F.sub hB
            | false =>
              rw [show lkB _ i = _ from hk]
              obtain ⟨base, cap, q1, q2, q3⟩ := hB
              refine ⟨base, cap, (νb_at hb).trans q1, q2, ?_⟩
              rcases q3 with q3 | ⟨b, off, c, e', q4, q5, q6, q7⟩
              · exact .inl q3
              · refine .inr ⟨b, off, c, e', q4, q5, q6, fun j x hx => ?_⟩
                obtain ⟨us, q8, q9⟩ := q7 j x hx
                exact ⟨us, CR.mono F.sub q8, q9⟩
          | map k u es =>
            rw [hl] at hk hB
            rw [show lkB _ i = _ from hk]
            obtain ⟨b, entries, clock, q1, q2, q3, q4⟩ := hB
            refine ⟨b, entries, clock, (νb_at hb).trans q1, q2, q3, fun j x hx => ?_⟩
            obtain ⟨m, us, q5, q6, q7, q8⟩ := q4 j x hx
            exact ⟨m, us, q5, CR.mono F.sub q6, CR.mono F.sub q7, q8⟩
    · have at1 : ∀ i, (lkB (instH T.heap (rest M M0)).1 i).live = true → blkNo (νb M.bd ν i) = some b → ∃ id, lkBd M.bd i = some (.at_ id) ∧ (lkB S.h id).live = true ∧ blkNo (ν id) = some b := fun i hi hbi => by
        cases hb : lkBd M.bd i with
        | none => rw [F.out i (by simp [hb]) (by simp [hb])] at hi; cases hi
        | some x =>
          cases x with
          | open_ => rw [F.out i (by simp [hb]) (by simp [hb])] at hi; cases hi
          | new => simp [νb, hb, blkNo] at hbi
          | at_ id =>
            refine ⟨id, rfl, ?_, by simpa [νb, hb] using hbi⟩
            have hk := F.at_ i id hb
            cases hB' : lkB S.h id with
            | dead => rw [hB'] at hk; rw [show lkB _ i = _ from hk] at hi; cases hi
            | cells => rfl
            | map => rfl
            | row t g fz xs =>
              cases fz with
              | false => rfl
              | true => rw [hB'] at hk; rw [show lkB _ i = _ from hk] at hi; cases hi
      obtain ⟨id, q1, q2, q3⟩ := at1 i hi hbi
      obtain ⟨id', q4, q5, q6⟩ := at1 j hj hbj
      have := H.heap.inj id id' b q2 q5 q3 q6
      subst this
      exact F.inj i j id q1 q4
  have hpin : ∀ i, i < pin → lkBd M.bd i = some (.at_ i) := fun i hi => (eL.trans eH).bd i i (startBd_lk hi c1)
  refine ⟨νb M.bd ν, ⟨H.defers, ?_, fun i => ?_, hHR⟩, ⟨rfl, rfl, rfl, Nat.le_refl _, fun b _ hb => ⟨rfl, fun hb' => hb (F.subL b hb')⟩, fun i hi => ?_⟩, by rw [hhlen]; exact c1, fun i hi hdead => ?_⟩
  · have := H.len
    simp only [List.length_append, List.length_replicate, instL_length]
    omega
  · simp only [lk_pad]
    exact matchL_vr H.heap hL M eH F (fun k => a.tmps.getD k undef) (fun k => H.tmps k) i
  · have hb := hpin i hi
    have hk := F.at_ i i hb
    cases hl : lkB S.h i with
    | dead => trivial
    | cells c => rw [hl] at hk; exact ⟨hk, νb_at hb⟩
    | row t g fz xs =>
      rw [hl] at hk
      cases fz with
      | true => exact ⟨g, true, xs, hk, Nat.le_refl _, fun _ => ⟨νb_at hb, rfl⟩⟩
      | false =>
        have hg := gens0_spec c4 i hi t g xs hl
        exact ⟨0, false, xs, hk, by omega, fun _ => ⟨νb_at hb, rfl⟩⟩
    | map k u es => rw [hl] at hk; exact ⟨⟨es, hk⟩, νb_at hb⟩
  · have hk := F.at_ i i (hpin i hi)
    rw [hdead] at hk
    exact hk
end
end Go.Am
end

noncomputable section
namespace Go.Am
variable [Ghost]
section
variable {ρ : Type} {ν ν' : Nat → Value} {h h' : List Blk} {w w' : World} {P : Program}
def ArgVal (w : World) (G : Nat → Prop) (t : Ty) (x : Val t) (v : Value) : Prop := ∃ us, CR w G t x us ∧ v = valOf t us
def AT (w : World) (G : Nat → Prop) : (l : List Ty) → (t : Ty) → Val (tys t l) → List Value → Prop
  | [], t, x, vs => ∃ v, vs = [v] ∧ ArgVal w G t x v
  | u :: l, t, x, vs => ∃ v vs', vs = v :: vs' ∧ ArgVal w G t (x : Val t × Val (tys u l)).1 v ∧ AT w G l u (x : Val t × Val (tys u l)).2 vs'
def AL (w : World) (G : Nat → Prop) : (l : List Ty) → Val (tyL l) → List Value → Prop
  | [], _, vs => vs = []
  | t :: l, x, vs => AT w G l t x vs
def RR (w : World) (G : Nat → Prop) : (l : List Ty) → Val (tyL l) → Value → Prop
  | [], _, u => u = .tuple #[]
  | [t], x, u => ArgVal w G t x u
  | t :: u' :: l, x, u => ∃ vs, u = .tuple vs ∧ AT w G (u' :: l) t x vs.toList
def PureOk (P : Program) (f : Nat) (p : PFun) : Prop :=
  ∀ (G : Nat → Prop) (x : Val (tyL p.ts)) (y : Val (tyL p.rs)), p.F x = some y → ∀ (w : World) (vals : List Value), (∀ b, G b → b < w.heap.size) → AL w G p.ts x vals →
    (∃ fn c, P.funcs[f]? = some fn ∧ fn.body = some c) ∧
    CallsIn Fence.wide 0 P f vals.toArray w fun e w' => ∃ u, e = .returned u ∧ RR w' G p.rs y u ∧ (∀ b, b < w.heap.size → w'.heap[b]? = w.heap[b]?) ∧ w.heap.size ≤ w'.heap.size ∧ w'.os = w.os ∧ w'.tape = w.tape ∧ w'.output = w.output
theorem cellsO_cellsV {a : AV} {vs : List AV} (e : cellsO a = some vs) : cellsV a = vs := by
  cases a <;> simp only [cellsO, Option.some.injEq, reduceCtorEq] at e <;> exact e
theorem argVal_of_cells {G : Nat → Prop} {t : Ty} {x : Val t} {a : AV} {v : Value} {vs : List AV} (hag : (isAggV a == t.isAgg) = true) (hc : cellsO a = some vs) (hv : VR ν h w a v)
    (hs : ∀ c ∈ cellsV a, ∀ u, VR1 ν h w c u → VRs w G (snap1 h c) u) (e : unflatAll t (vs.map (snap1 h)) = some x) : ArgVal w G t x v := by
  have h1 := hv.cells hc
  have h2 : All2 (VRs w G) (vs.map (snap1 h)) v.cells.toList := All2.map_left (aux vs _ h1 fun c hm u hu => hs c (by rw [cellsO_cellsV hc]; exact hm) u hu.1)
  refine ⟨_, unflatAll_CR e h2, ?_⟩
  cases ha : a.isAgg with
  | true =>
    cases a <;> try cases ha
    obtain ⟨us, rfl, _⟩ := hv
    have : t.isAgg = true := by simpa [isAggV] using hag
    simp [valOf, this, Value.cells]
  | false =>
    have hn : isAggV a = false := by cases a <;> first | rfl | cases ha
    have htf : t.isAgg = false := by rw [hn] at hag; simpa using hag
    have htu : a.isTup = false := by cases a <;> first | rfl | cases hc
    have h3 := (hv.one ha htu).oneCell hc
    simp [valOf, htf, cells_one h3]
where
  aux {w : World} {G : Nat → Prop} {ν : Nat → Value} {h : List Blk} (vs : List AV) (us : List Value) (h1 : All2 (VRc ν h w) vs us) (hh : ∀ c ∈ vs, ∀ u, VRc ν h w c u → VRs w G (snap1 h c) u) : All2 (fun c b => VRs w G (snap1 h c) b) vs us := by
    induction vs generalizing us with
    | nil => cases us with
      | nil => trivial
      | cons => exact h1.elim
    | cons c vs ih => cases us with
      | nil => exact h1.elim
      | cons u us => exact ⟨hh c (by simp) u h1.1, ih us h1.2 fun c hm u hu => hh c (by simp [hm]) u hu⟩
theorem argV_val (H : HR ν h w) {G : Nat → Prop} {t : Ty} {x : Val t} {a : AV} {v : Value} (hv : VR ν h w a v)
    (hs : ∀ c ∈ cellsV a, ∀ u, VR1 ν h w c u → VRs w G (snap1 h c) u) (hb : ∀ id cs, a = .box id 0 → lkB h id = .cells cs → (∀ b, blkNo (ν id) = some b → ¬ G b) ∧ ∀ c ∈ cs, ∀ u, VR1 ν h w c u → VRs w G (snap1 h c) u) (e : argV h t a = some x) : ArgVal w G t x v := by
  cases ht : (match t with | .ptr _ => true | _ => false) with
  | false =>
    have e' : (match isAggV a == t.isAgg with | true => (match cellsO (snap h a) with | some cs => unflatAll t cs | none => none) | false => none) = some x := by
      cases t <;> first | exact e | cases ht
    split at e' <;> try (cases e'; done)
    rename_i hag
    split at e' <;> try (cases e'; done)
    rename_i cs hcs
    obtain ⟨vs, h1, rfl⟩ := snap_cells hcs
    exact argVal_of_cells hag h1 hv hs e'
  | true =>
    cases t <;> try cases ht
    rename_i u
    simp only [argV] at e
    split at e <;> try (cases e; done)
    · rename_i id
      split at e <;> try (cases e; done)
      rename_i cs hl
      obtain ⟨cs', b, h1, h2, h3⟩ := hv.one rfl rfl
      have hB := H.blk id
      rw [hl] at hB
      obtain ⟨b', c, e', h4, h5, h6⟩ := hB
      rw [h2] at h4; cases h4
      obtain ⟨hG, hcs⟩ := hb id cs rfl hl
      have hcr : CR w G u x c.toList := unflatAll_CR e (All2.map_left (argVal_of_cells.aux cs _ h6 fun c hc u hu => hcs c hc u hu.1))
      refine ⟨[v], ⟨b, 0, c.toList, by rw [h3], hG b (by rw [h2]; rfl), heap_lt h5, hcr, CellsAt.of_cells h5⟩, rfl⟩
    · rename_i t' y
      split at e <;> try (cases e; done)
      rename_i heq _
      subst heq
      cases e
      have h1 := hs _ (by simp [cellsV]) v (hv.one rfl rfl)
      obtain ⟨b, o, us, h2, h3, h4, h5, h6⟩ := h1
      exact ⟨[v], ⟨b, o, us, by rw [h2]; rfl, h3, h4, h5, h6⟩, rfl⟩
theorem argsT_val (H : HR ν h w) {G : Nat → Prop} : ∀ (l : List Ty) (t : Ty) (x : Val (tys t l)) (as : List AV) (vs : List Value), All2 (VR ν h w) as vs →
    (∀ a ∈ as, ∀ c ∈ cellsV a, ∀ u, VR1 ν h w c u → VRs w G (snap1 h c) u) → (∀ a ∈ as, ∀ id cs, a = .box id 0 → lkB h id = .cells cs → (∀ b, blkNo (ν id) = some b → ¬ G b) ∧ ∀ c ∈ cs, ∀ u, VR1 ν h w c u → VRs w G (snap1 h c) u) → argsT h l t as = some x → AT w G l t x vs
  | [], t, x, [], vs, _, _, _, e => by cases e
  | [], t, x, [a], vs, hv, hs, hb, e => by
    obtain ⟨v, rfl, h1⟩ := hv.one
    exact ⟨v, rfl, argV_val H h1 (hs a (by simp)) (hb a (by simp)) e⟩
  | [], t, x, _ :: _ :: _, vs, _, _, _, e => by cases e
  | u :: l, t, x, [], vs, _, _, _, e => by cases e
  | u :: l, t, x, a :: as, [], hv, _, _, e => hv.elim
  | u :: l, t, x, a :: as, v :: vs, hv, hs, hb, e => by
    simp only [argsT] at e
    split at e <;> try (cases e; done)
    rename_i y hy
    split at e <;> try (cases e; done)
    rename_i z hz
    cases e
    exact ⟨v, vs, rfl, argV_val H hv.1 (hs a (by simp)) (hb a (by simp)) hy, argsT_val H l u z as vs hv.2 (fun a ha => hs a (by simp [ha])) (fun a ha => hb a (by simp [ha])) hz⟩
theorem argsL_val (H : HR ν h w) {G : Nat → Prop} {l : List Ty} {x : Val (tyL l)} {as : List AV} {vs : List Value} (hv : All2 (VR ν h w) as vs)
    (hs : ∀ a ∈ as, ∀ c ∈ cellsV a, ∀ u, VR1 ν h w c u → VRs w G (snap1 h c) u) (hb : ∀ a ∈ as, ∀ id cs, a = .box id 0 → lkB h id = .cells cs → (∀ b, blkNo (ν id) = some b → ¬ G b) ∧ ∀ c ∈ cs, ∀ u, VR1 ν h w c u → VRs w G (snap1 h c) u) (e : argsL h l as = some x) : AL w G l x vs := by
  cases l with
  | nil => cases as with
    | nil => exact hv.nil_left
    | cons => cases e
  | cons t l => exact argsT_val H l t x as vs hv hs hb e
theorem ArgVal.mono {G G' : Nat → Prop} (hm : ∀ b, G' b → G b) {t : Ty} {x : Val t} {v : Value} (hv : ArgVal w G t x v) : ArgVal w G' t x v := by
  obtain ⟨us, h1, h2⟩ := hv
  exact ⟨us, CR.mono hm h1, h2⟩
theorem flat_plain {av av' : Nat → Prop} : ∀ {t : Ty} {x : Val t} {us : List Value}, (flat t x).all plain1 = true → CR w av t x us → CR w av' t x us
  | .unit, _, _, _, hc => hc
  | .bool, _, _, _, hc => hc
  | .int _, _, _, _, hc => hc
  | .str, _, _, _, hc => hc
  | .slice _, _, _, hp, _ => by simp [flat, plain1] at hp
  | .map _ _, _, _, hp, _ => by simp [flat, plain1] at hp
  | .ptr _, _, _, hp, _ => by simp [flat, plain1] at hp
  | .pair a b, x, us, hp, hc => by
    simp only [flat, List.all_append, Bool.and_eq_true] at hp
    obtain ⟨u1, u2, e, h1, h2⟩ := hc
    exact ⟨u1, u2, e, flat_plain hp.1 h1, flat_plain hp.2 h2⟩
theorem enc_plain {t : Ty} {x : Val t} (hp : plain (enc t x) = true) : (flat t x).all plain1 = true := by
  cases t <;> first | exact hp | (simp only [enc, plain, plain1] at hp; simp [flat, plain1]) | (simp [enc, plain, plain1] at hp)
theorem ArgVal.plain {G G' : Nat → Prop} {t : Ty} {x : Val t} {v : Value} (hp : plain (enc t x) = true) (hv : ArgVal w G t x v) : ArgVal w G' t x v := by
  obtain ⟨us, h1, h2⟩ := hv
  exact ⟨us, flat_plain (enc_plain hp) h1, h2⟩
theorem AT.plain {G G' : Nat → Prop} : ∀ {l : List Ty} {t : Ty} {x : Val (tys t l)} {vs : List Value}, (encT l t x).all Go.Am.plain = true → AT w G l t x vs → AT w G' l t x vs
  | [], t, x, vs, hp, ⟨v, h1, h2⟩ => ⟨v, h1, h2.plain (by simpa [encT] using hp)⟩
  | u :: l, t, x, vs, hp, ⟨v, vs', h1, h2, h3⟩ => by
    simp only [encT, List.all_cons, Bool.and_eq_true] at hp
    exact ⟨v, vs', h1, h2.plain hp.1, AT.plain hp.2 h3⟩
theorem plain_notTup {v : AV} (hp : v.isTup = false) : plainT v = Go.Am.plain v := by cases v <;> first | rfl | cases hp
theorem enc_notTup {t : Ty} {x : Val t} : (enc t x).isTup = false := by cases t <;> rfl
theorem RR.plain {G G' : Nat → Prop} : ∀ {l : List Ty} {x : Val (tyL l)} {u : Value}, plainT (encR l x) = true → RR w G l x u → RR w G' l x u
  | [], _, _, _, h => h
  | [t], x, u, hp, h => ArgVal.plain ((plain_notTup (enc_notTup (t := t) (x := x))).symm.trans hp) h
  | t :: u' :: l, x, u, hp, ⟨vs, h1, h2⟩ => ⟨vs, h1, h2.plain hp⟩
theorem ArgVal.VR {t : Ty} {x : Val t} {v : Value} (hv : ArgVal w (Av ν h) t x v) : VR ν h w (enc t x) v := by
  obtain ⟨us, h1, rfl⟩ := hv
  exact enc_VR h1
theorem AT.VR : ∀ {l : List Ty} {t : Ty} {x : Val (tys t l)} {vs : List Value}, AT w (Av ν h) l t x vs → All2 (VR ν h w) (encT l t x) vs
  | [], t, x, _, ⟨v, rfl, h2⟩ => ⟨h2.VR, trivial⟩
  | u :: l, t, x, _, ⟨v, vs', rfl, h2, h3⟩ => ⟨h2.VR, AT.VR h3⟩
theorem encT_notTup : ∀ {l : List Ty} {t : Ty} {x : Val (tys t l)}, ∀ a ∈ encT l t x, a.isTup = false
  | [], t, x, a, hm => by simp only [encT, List.mem_singleton] at hm; rw [hm]; exact enc_notTup
  | u :: l, t, x, a, hm => by
    simp only [encT, List.mem_cons] at hm
    rcases hm with rfl | hm
    · exact enc_notTup
    · exact encT_notTup a hm
theorem All2.VR2 : ∀ {as : List AV} {vs : List Value}, All2 (VR ν h w) as vs → (∀ a ∈ as, a.isTup = false) → All2 (VR2 ν h w) as vs
  | [], [], _, _ => trivial
  | a :: as, v :: vs, hv, hn => ⟨by rw [← VR_eq (hn a (by simp))]; exact hv.1, All2.VR2 hv.2 fun a ha => hn a (by simp [ha])⟩
  | [], _ :: _, hv, _ => hv.elim
  | _ :: _, [], hv, _ => hv.elim
theorem RR.VR : ∀ {l : List Ty} {x : Val (tyL l)} {u : Value}, RR w (Av ν h) l x u → VR ν h w (encR l x) u
  | [], _, _, h => by cases h; exact ⟨#[], rfl, trivial⟩
  | [t], x, u, h => ArgVal.VR h
  | t :: u' :: l, x, u, ⟨vs, h1, h2⟩ => ⟨vs, h1, All2.VR2 h2.VR encT_notTup⟩
theorem HR.grow (H : HR ν h w) (hk : ∀ b, b < w.heap.size → w'.heap[b]? = w.heap[b]?) (hz : w.heap.size ≤ w'.heap.size) (h1 : w'.os = w.os) (h2 : w'.tape = w.tape) (h3 : w'.output = w.output) (m : Nat) : Ev m ν h w ν h w' ∧ HR ν h w' := by
  have ev : ∀ m, Ev m ν h w ν h w' := fun m => ⟨h1, h2, h3, hz, fun b hb hn => ⟨hk b hb, hn⟩, fun _ _ => Blk.next_refl _ _ _⟩
  exact ⟨ev m, fun id => BR.ev (ev _) rfl (fun b _ _ hb => hk b hb) (H.blk id), H.inj, fun b hb => Nat.lt_of_lt_of_le (H.ghlt b hb) hz, H.ghne⟩
def CallTo (P : Program) (g : Nat) (ν : Nat → Value) (h : List Blk) (w : World) (vals : List Value) (K : AV → List Blk → Option ρ) (r : ρ) : Prop :=
  (∃ fn c, P.funcs[g]? = some fn ∧ fn.body = some c) ∧
  CallsIn Fence.wide 0 P g vals.toArray w fun e w' => ∃ ν' h' v u, e = .returned u ∧ VR ν' h' w' v u ∧ HR ν' h' w' ∧ Ev h.length ν h w ν' h' w' ∧ h.length ≤ h'.length ∧ (∀ j, j < h.length → lkB h j = .dead → lkB h' j = .dead) ∧ K v h' = some r
theorem frzL_mem {c : AV} {u : Value} : ∀ {as : List AV} {h : List Blk}, HR ν h w → c ∈ as → noMap1 c = true → VR1 ν h w c u → VRs w (Av ν (frzL h as)) (snap1 h c) u
  | [], _, _, hm, _, _ => by cases hm
  | a :: as, h, H, hm, hn, hv => by
    obtain ⟨e1, H1, l1⟩ := frz1_ok H a
    rcases List.mem_cons.1 hm with rfl | hm
    · exact VRs.mono ((frzL_ok as H1).2.2) (frz1_snap H hv hn)
    · have := frzL_mem (as := as) H1 hm hn (hv.ev e1)
      rwa [snap1_frz1] at this
theorem pure_sound {f : Nat} {p : PFun} (hp : PureOk P f p) {b : Bool} {args : List AV} {K : AV → List Blk → Option ρ} {r : ρ} (e : pureK b p h args K = some r) (H : HR ν h w) {vals : List Value} (hv : All2 (VR ν h w) args vals) : CallTo P f ν h w vals K r := by
  unfold pureK at e
  split at e <;> try (cases e; done)
  rename_i x hx
  simp only [bindF] at e
  split at e <;> try (cases e; done)
  rename_i y hy
  -- the call, with what may not be touched
  have call : ∀ (G : Nat → Prop), (∀ b, G b → b < w.heap.size) → AL w G p.ts x vals → ∀ (h' : List Blk), HR ν h' w → Ev h.length ν h w ν h' w → h.length ≤ h'.length → (∀ j, j < h.length → lkB h j = .dead → lkB h' j = .dead) →
      (∀ w' u, RR w' G p.rs y u → RR w' (Av ν h') p.rs y u) → K (encR p.rs y) h' = some r → CallTo P f ν h w vals K r := by
    intro G hG hal h' H' ev hl hdead hrr hK
    obtain ⟨h1, h2⟩ := hp G x y hy w vals hG hal
    refine ⟨h1, h2.mono fun e w' hw => ?_⟩
    obtain ⟨u, rfl, g1, g2, g3, g4, g5, g6⟩ := hw
    obtain ⟨ev', H''⟩ := H'.grow g2 g3 g4 g5 g6 h.length
    exact ⟨ν, h', _, u, rfl, (hrr w' u g1).VR, H'', ev.trans ev' (Nat.le_refl _), hl, hdead, hK⟩
  split at e
  · rename_i hpl
    exact call (fun _ => False) (fun _ hf => hf.elim) (argsL_val H hv (fun a _ c _ u hu => snap1_out H hu) (fun _ _ _ _ _ _ => ⟨fun _ _ hf => hf, fun c _ u hu => snap1_out H hu⟩) hx) h H (Ev.refl _ _ _ _) (Nat.le_refl _) (fun _ _ hd => hd) (fun w' u hr => hr.plain hpl) e
  · split at e
    · rename_i hown
      have hown' : ∀ a ∈ args, anyOwn a = false := fun a ha => by have := List.all_eq_true.1 hown a ha; simpa using this
      refine call (Av ν h) (fun b hb => H.ltA hb) (argsL_val H hv (fun a ha c hc u hu => ?_) (fun a ha id cs hid _ => ?_) hx) h H (Ev.refl _ _ _ _) (Nat.le_refl _) (fun _ _ hd => hd) (fun w' u hr => hr) e
      · have hc1 : anyOwn1 c = false := by
          have := hown' a ha
          cases a <;> first
            | (simp only [cellsV, List.mem_singleton] at hc; subst hc; exact this)
            | (simp only [cellsV] at hc; simp only [anyOwn, List.any_eq_false] at this; simpa using this c hc)
        have : snap1 h c = c := by cases c <;> first | rfl | cases hc1
        rw [this]; exact hu.data
      · subst hid; cases hown' _ ha
    · split at e <;> try (cases e; done)
      rename_i hnr
      simp only [Bool.or_eq_false_iff, Bool.not_eq_false'] at hnr
      have hnr' : ∀ a ∈ args, noRef a = true := List.all_eq_true.1 hnr.2
      obtain ⟨ev, H', hsub⟩ := frzL_ok (args.flatMap cellsV) H
      refine call (Av ν (frzL h (args.flatMap cellsV))) (fun b hb => H'.ltA hb) (argsL_val H hv (fun a ha c hc u hu => ?_) (fun a ha id cs hid _ => ?_) hx) _ H' ev (by rw [frzL_length]; exact Nat.le_refl _) (fun _ _ hd => frzL_dead _ hd) (fun w' u hr => hr) e
      · refine frzL_mem H (List.mem_flatMap.2 ⟨a, ha, hc⟩) ?_ hu
        have := hnr' a ha
        have hc1 : noRef1 c = true := by
          cases a <;> first
            | (simp only [cellsV, List.mem_singleton] at hc; subst hc; exact this)
            | (simp only [cellsV] at hc; simp only [noRef, List.all_eq_true] at this; exact this c hc)
        cases c <;> first | rfl | cases hc1
      · subst hid; cases hnr' _ ha
end
end Go.Am
end

noncomputable section
namespace Go.Am
variable [Ghost]
section
variable {ρ : Type} {ν ν' : Nat → Value} {h h' : List Blk} {w w' : World} {P : Program}
theorem noTup_spec {v v' : AV} (e : noTup v = some v') : v' = v ∧ v.isTup = false := by
  cases v <;> simp only [noTup, Option.some.injEq, reduceCtorEq] at e <;> exact ⟨e.symm, rfl⟩
theorem resLoad_ok {S : St} {a : Act} (H : Sim ν S a w) {rv : ResultVar} {v : AV} (e : resLoad P S.h S.t rv = some v) :
    ∃ u, (match rv with | .tmp t => (pure (a.tmps.getD t undef) : Sem Value) | .cell x t => do loadVar t (← asAddr (a.tmps.getD x undef))).run P w = .ok u w ∧ VR2 ν S.h w v u := by
  cases rv with
  | tmp i =>
    obtain ⟨rfl, ht⟩ := noTup_spec e
    have := H.tmps i
    rw [VR_eq ht] at this
    exact ⟨_, rfl, this⟩
  | cell x t =>
    simp only [resLoad] at e
    split at e <;> try (cases e; done)
    rename_i v' hl
    obtain ⟨rfl, ht⟩ := noTup_spec e
    obtain ⟨u, h1, h2⟩ := load_ok H.heap hl (H.tmps x)
    rw [VR_eq ht] at h2
    refine ⟨u, ?_, h2⟩
    simp only [Instr.loadAt] at h1
    cases hx : a.tmps.getD x undef with
    | pointer p =>
      rw [hx] at h1
      cases p with
      | none => simp [Instr.sureAddr] at h1
      | some ad =>
        show (do loadVar t (← asAddr (a.tmps.getD x undef)) : Sem Value).run P w = _
        rw [hx]
        simpa [Instr.sureAddr, asAddr] using h1
    | _ => rw [hx] at h1; simp [Instr.sureAddr] at h1
theorem resList_ok {S : St} {a : Act} (H : Sim ν S a w) : ∀ {rs : List ResultVar} {vs : List AV}, resList P S.h S.t rs = some vs →
    ∃ us : List Value, (rs.mapM (m := Sem) fun | .tmp t => pure (a.tmps.getD t undef) | .cell x t => do loadVar t (← asAddr (a.tmps.getD x undef))).run P w = .ok us w ∧ All2 (VR2 ν S.h w) vs us
  | [], vs, e => by cases e; exact ⟨[], rfl, trivial⟩
  | rv :: rs, vs, e => by
    simp only [resList] at e
    split at e <;> try (cases e; done)
    rename_i v hv
    split at e <;> try (cases e; done)
    rename_i vs' hvs
    cases e
    obtain ⟨u, h1, h2⟩ := resLoad_ok H hv
    obtain ⟨us, h3, h4⟩ := resList_ok H hvs
    refine ⟨u :: us, ?_, h2, h4⟩
    simp only [List.mapM_cons, Sem.run_bind, Sem.run_pure]
    rw [h1]
    simp only [Result.andThen_ok]
    rw [h3]
    rfl
theorem VR2.up {v : AV} {u : Value} (hv : VR2 ν h w v u) : VR ν h w v u := by
  cases ht : v.isTup with
  | true => cases v <;> try cases ht
            exact hv.elim
  | false => rw [VR_eq ht]; exact hv
theorem results_ok {S : St} {a : Act} {fn : Func} {v : AV} (H : Sim ν S a w) (e : resultsOf P fn S = some v) : ∃ u, (results fn a.tmps).run P w = .ok u w ∧ VR ν S.h w v u := by
  unfold resultsOf at e
  cases hr : resList P S.h S.t fn.results.toList with
  | none => rw [hr] at e; cases e
  | some vs =>
    obtain ⟨us, h1, h2⟩ := resList_ok H hr
    have hrun : (results fn a.tmps).run P w = .ok (if h : us.toArray.size = 1 then us.toArray[0] else .tuple us.toArray) w := by
      unfold results
      rw [Sem.run_bind, Array.mapM_eq_mapM_toList, Sem.run_map]
      erw [h1]
      rfl
    rw [hr] at e
    rcases vs with _ | ⟨x, _ | ⟨y, l⟩⟩ <;> rcases us with _ | ⟨u, _ | ⟨u', m⟩⟩
    · cases e; exact ⟨_, hrun, ⟨#[], by simp, trivial⟩⟩
    · exact h2.elim
    · exact h2.elim
    · exact h2.elim
    · cases e; exact ⟨_, hrun, h2.1.up⟩
    · exact h2.2.elim
    · exact h2.elim
    · exact h2.2.elim
    · cases e; exact ⟨_, hrun, ⟨(u :: u' :: m).toArray, by simp, h2⟩⟩
theorem All2.lk {R : AV → Value → Prop} (hany : ∀ u, R .any u) : ∀ {l : List AV} {m : List Value} (i : Nat), All2 R l m → R (Am.lk l i) (m.getD i undef)
  | [], [], i, _ => hany _
  | _ :: _, _ :: _, 0, h => h.1
  | _ :: _, _ :: _, i + 1, h => by simpa [Am.lk] using All2.lk hany i h.2
  | [], _ :: _, _, h => h.elim
  | _ :: _, [], _, h => h.elim
def Flat : Prop := Ghost.D = [] ∧ Ghost.Q = none
theorem fen_wide (h : Ghost.Q = none) : fen = Fence.wide := by
  unfold fen
  rw [h]
  rfl
theorem enter_sound {E : Env ρ} {call : List Nat → Bool → Nat → List AV → List Blk → (AV → List Blk → Option ρ) → Option ρ} {N : Nat} (hE : EnvOk E N call) (hD : DrawOk E N call) {path : List Nat} (hpath : path.length + 2 = N) {f : Nat} {args : List AV} {K : AV → List Blk → Option ρ} {r : ρ}
    (h0 : Flat) (hL : ∀ fn c, E.P.funcs[f]? = some fn → fn.body = some c → ∀ x ∈ loopsOf 0 c, LoopOk E path f x.1 x.2)
    (e : enterK E call path f args h K = some r) {vals : List Value} (H : HR ν h w) (hargs : All2 (VR ν h w) args vals) :
    (∃ fn c, E.P.funcs[f]? = some fn ∧ fn.body = some c) ∧
    CallsIn Fence.wide 0 E.P f vals.toArray w fun e w' => ∃ ν' h' v u, e = .returned u ∧ VR ν' h' w' v u ∧ HR ν' h' w' ∧ Ev h.length ν h w ν' h' w' ∧ h.length ≤ h'.length ∧ (∀ j, j < h.length → lkB h j = .dead → lkB h' j = .dead) ∧ K v h' = some r := by
  unfold enterK at e
  split at e <;> try (cases e; done)
  rename_i fn hfn
  split at e <;> try (cases e; done)
  rename_i c hc
  refine ⟨⟨fn, c, hfn, hc⟩, ?_⟩
  refine callsIn_of_wp hfn hc trivial ?_
  have hlen := hargs.length
  have hS : Sim ν { t := args ++ List.replicate (fn.ntmps - args.length) .any, h := h } { tmps := vals.toArray ++ Array.replicate (fn.ntmps - vals.toArray.size) undef, defers := [] } w := by
    refine ⟨h0.1.symm, by simp [hlen], fun i => ?_, H⟩
    simp only [lk_pad]
    rcases Nat.lt_or_ge i args.length with hi | hi
    · have := All2.lk (R := VR ν h w) (fun _ => trivial) i hargs
      have hv : i < vals.length := by omega
      have h2 : (vals.toArray ++ Array.replicate (fn.ntmps - vals.toArray.size) undef).getD i undef = vals.getD i undef := by
        simp [Array.getD_eq_getD_getElem?, Array.getElem?_append, hv]
      rw [h2]; exact this
    · rw [lk_ge _ _ hi]; trivial
  have hgo := goC_sound hE hD hpath c 0 _ _ ν _ w (hL fn c hfn hc) e hS (Nat.le_refl _)
  rw [fen_wide h0.2] at hgo
  refine wpIn_mono hgo fun x a' w' ha => ?_
  obtain ⟨ν', S', h1, h2, h3, h4, h5⟩ := ha
  have fin : ∀ v, resultsOf E.P fn S' = some v → K v S'.h = some r → a'.defers = [] ∧ ∃ u, (results fn a'.tmps).run E.P w' = .ok u w' ∧ ∃ ν' h' v u', Ending.returned u = .returned u' ∧ VR ν' h' w' v u' ∧ HR ν' h' w' ∧ Ev h.length ν h w ν' h' w' ∧ h.length ≤ h'.length ∧ (∀ j, j < h.length → lkB h j = .dead → lkB h' j = .dead) ∧ K v h' = some r := by
    intro v hv hk
    obtain ⟨u, q1, q2⟩ := results_ok h1 hv
    exact ⟨h1.defers.trans h0.1, u, q1, ν', S'.h, v, u, rfl, q2, h1.heap, h2, h3, h4, hk⟩
  cases x with
  | normal =>
    simp only at h5
    split at h5 <;> try (cases h5; done)
    exact fin _ ‹_› h5
  | ret =>
    simp only at h5
    split at h5 <;> try (cases h5; done)
    exact fin _ ‹_› h5
  | exit id => cases h5
  | goto l => cases h5
  | panic ch => cases h5
  | outgrown => cases h5
structure LibOk (E : Env ρ) : Prop where
  pure : ∀ f p, E.pure f = some p → PureOk E.P f p
  sort : ∀ f, E.sort f = true → ∀ (h : List Blk) (x : AV) (K : AV → List Blk → Option ρ) (r : ρ), sortK h x K = some r → ∀ ν w u, HR ν h w → VR ν h w x u → CallTo E.P f ν h w [u] K r
  compact : ∀ f, E.compact f = true → ∀ (h : List Blk) (x : AV) (K : AV → List Blk → Option ρ) (r : ρ), compactK h x K = some r → ∀ ν w u, HR ν h w → VR ν h w x u → CallTo E.P f ν h w [u] K r
  plain : ∀ (f : Nat) (fn : Func), E.P.funcs[f]? = some fn → (fn.name == "runtime.NumGoroutine") = false
  clone : CloneOk E.P E.clone
  joins : JoinOk E
omit [Ghost] in
theorem callN_lib {E : Env ρ} (n : Nat) : (∀ f p, E.pure f = some p → ∀ path draw args h K, callN E (n + 1) path draw f args h K = pureK (draw && !E.fz f) p h args K) ∧
   (∀ f, E.pure f = none → E.sort f = true → ∀ path draw args h K, callN E (n + 1) path draw f args h K = match args with | [x] => sortK h x K | _ => none) ∧
   (∀ f, E.pure f = none → E.sort f = false → E.compact f = true → ∀ path draw args h K, callN E (n + 1) path draw f args h K = match args with | [x] => compactK h x K | _ => none) :=
  ⟨fun f p hf path draw args h K => by simp only [callN, hf], fun f hf hs path draw args h K => by simp only [callN, hf, hs]; rfl, fun f hf hs hc path draw args h K => by simp only [callN, hf, hs, hc]; rfl⟩
theorem callN_sound {E : Env ρ} (h0 : Flat ∨ ∀ f, E.inl f = false) (hlib : LibOk E) (hdraw : ∀ L call, EnvOk E L call → DrawOk E L call)
    (hloops : ∀ n, n ≤ 10 → EnvOk E (22 - 2 * n) (callN E n) → ∀ (path : List Nat) (f : Nat) (fn : Func) (c : Code), path.length + 2 = 22 - 2 * n → E.P.funcs[f]? = some fn → fn.body = some c → ∀ x ∈ loopsOf 0 c, LoopOk E path f x.1 x.2) :
    ∀ n, n ≤ 10 → CallOk E.P (22 - 2 * n) (callN E n) := by
  intro n
  induction n with
  | zero => intro _ path draw g args h K r _ e; cases e
  | succ n ih =>
    intro hn path draw g args h K r hp e ν w vals H hargs
    have hE : EnvOk E (22 - 2 * n) (callN E n) := ⟨by
      cases n with
      | zero => exact .inl fun _ _ _ _ _ _ => rfl
      | succ n => exact .inr (callN_lib n), ih (by omega), hlib.plain, hlib.clone, hlib.joins⟩
    simp only [callN] at e
    split at e
    · rename_i gm hg
      exact pure_sound (hlib.pure g gm hg) e H hargs
    · split at e
      · rename_i hs
        split at e <;> try (cases e; done)
        rename_i x
        obtain ⟨u, rfl, hu⟩ := hargs.one
        exact hlib.sort g hs h x K r e ν w u H hu
      · split at e
        · rename_i hc
          split at e <;> try (cases e; done)
          rename_i x
          obtain ⟨u, rfl, hu⟩ := hargs.one
          exact hlib.compact g hc h x K r e ν w u H hu
        · split at e <;> try (cases e; done)
          rename_i hinl
          have hpath : path.length + 2 = 22 - 2 * n := by omega
          exact enter_sound hE (hdraw _ _ hE) hpath (h0.resolve_right fun hf => by rw [hf g] at hinl; cases hinl) (fun fn c h1 h2 => hloops n (by omega) hE path g fn c hpath h1 h2) e H hargs
end
end Go.Am
end
