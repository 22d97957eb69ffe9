/- lemmas: PlRelax PlSpfa PlChain PlChain2 PlChain3 PlH PlI PlJ -/
import Derived.Test.YtfkfjebiaelniaaGreatPlA
import Derived.Test.YtfkfjebiaelniaaGreatMdT
set_option linter.all false
set_option linter.unusedSectionVars false
set_option linter.unusedVariables false
set_option linter.unusedSimpArgs false
noncomputable section
namespace Go.Proofs.ZzM
open Go Go.Am
section
variable {ρ : Type}
def wv (w : List Bool) (v : Int) : Bool := w[v.toNat]?.getD false
theorem wv_set {w : List Bool} {u v : Int} (hu : 0 ≤ u) (hv : 0 ≤ v) (h : u.toNat < w.length) (y : Bool) : wv (w.set u.toNat y) v = if v = u then y else wv w v := by
  unfold wv
  rw [List.getElem?_set]
  by_cases hvu : v = u
  · subst hvu; simp [h]
  · have : ¬ u.toNat = v.toNat := by omega
    simp [hvu, this]
theorem nget_gv {x : List Int} {v : Int} (h : v.toNat < x.length) (f : Int → Option ρ) : nget x v.toNat f = f (gv x v) := nget_nat (gv_get h) f
theorem nget_wv {w : List Bool} {v : Int} (h : v.toNat < w.length) (f : Bool → Option ρ) : nget w v.toNat f = f (wv w v) := by
  refine nget_nat ?_ f
  unfold wv; rw [List.getElem?_eq_getElem h]; rfl
theorem iff_rng {v : Int} {n : Nat} (h0 : 0 ≤ v) (h1 : v < n) (x : Option ρ) : iff_ ((ile 0 v) && (ilt v (n : Int))) x = x := by
  have : ((ile 0 v) && (ilt v (n : Int))) = true := by simp [ile, ilt, h0, h1]
  rw [this, Am.iff_true]
end
def linksF (n least : Int) : List Lk → List Int → List Bool → List Int → Bool × List Int × List Bool × List Int
  | [], x, w, q => (true, x, w, q)
  | l :: t, x, w, q =>
    if l.1 ≠ n then linksF n least t x w q else
    if gv x l.2.1 ≤ gv x n + l.2.2 then linksF n least t x w q else
    if gv x n + l.2.2 < least then (false, x.set l.2.1.toNat (gv x n + l.2.2), w, q) else
    if wv w l.2.1 then linksF n least t (x.set l.2.1.toNat (gv x n + l.2.2)) w q else linksF n least t (x.set l.2.1.toNat (gv x n + l.2.2)) (w.set l.2.1.toNat true) (q ++ [l.2.1])
structure LinksOk (L : List Lk) (N : Nat) (M : Int) : Prop where
  inr : InR L N
  noloop : ∀ l ∈ L, l.1 ≠ l.2.1
  most : ∀ l ∈ L, -M ≤ l.2.2 ∧ l.2.2 ≤ M
  len : L.length ≤ 400
  nodes : N ≤ 1000
  m0 : 0 ≤ M
  m1 : M ≤ 4503599627370496
set_option maxHeartbeats 1000000 in
theorem inner_ok {ρ : Type} {L : List Lk} {N : Nat} {M : Int} (hL : LinksOk L N M) {n least : Int} (hn : 0 ≤ n ∧ n < N) {x : List Int} {w : List Bool} {q : List Int} (hx : x.length = N) (hw : w.length = N) (hq : q.length ≤ 1000000)
    (hb : -2305843009213693952 ≤ gv x n ∧ gv x n ≤ 2305843009213693952) (K0 : (Val (.pair .bool (.pair (.slice tI) (.pair (.slice .bool) (.slice tI))))) → Option ρ) (K1 : (Val (.pair (.slice tI) (.pair (.slice .bool) (.slice tI)))) → Option ρ) :
    loopT (fun (v47 : (Val (.pair tI (.pair (.slice tI) (.pair (.slice .bool) (.slice tI)))))) kk52 => m_h_solution_L3 [] least n L (ilen L) v47.1 v47.2.1 v47.2.2.1 v47.2.2.2 (fun u48 u49 u50 u51 => kk52 (u48, u49, u50, u51)) K0 K1) ((0 : Int), x, w, q) =
      match linksF n least L x w q with
      | (true, r) => K1 r
      | (false, r) => K0 (false, r) := by
  have hlen := hL.len
  refine loopT_st L (fun i (s : List Int × List Bool × List Int) t => match linksF n least t s.1 s.2.1 s.2.2 with | (true, r) => K1 r | (false, r) => K0 (false, r))
    (fun i s => s.1.length = N ∧ s.2.1.length = N ∧ gv s.1 n = gv x n ∧ s.2.2.length ≤ 1000000 + i) (fun s hs kn => ?_) (fun i l t s hd hi hl hI kn hk => ?_) (s := (x, w, q)) ⟨hx, hw, rfl, by simpa using hq⟩
  · try dsimp only
    unfold m_h_solution_L3
    rw [ifb_ge]
    rfl
  · obtain ⟨y, u, p⟩ := s
    obtain ⟨h1, h2, h3, h4⟩ := hI
    dsimp only at h1 h2 h3 h4 hk ⊢
    have hmem : l ∈ L := List.mem_of_getElem? hl
    have hr := hL.inr l hmem
    have hm := hL.most l hmem
    have hm1 := hL.m1
    have hnl := hL.noloop l hmem
    unfold m_h_solution_L3
    rw [ifb_lt' hi, iget_nat hl]
    unfold linksF
    by_cases hln : l.1 = n
    · have e0 : ine l.1 n = false := by simp [ine, hln]
      rw [ifb_f e0]
      have e1 : ∀ (f : Bool → Option ρ) (g : Option ρ), lget (k := tI) (v := .bool) (i : Int) [] f g = g := fun f g => rfl
      rw [e1, if_neg (by simp [hln])]
      have tn : n.toNat < y.length := by omega
      have tt : l.2.1.toNat < y.length := by omega
      have tu : l.2.1.toNat < u.length := by omega
      rw [iff_rng hn.1 (by omega), nget_gv tn, ck_ok (by omega) (by omega), iff_rng hr.2.1 (by omega), nget_gv tt, ifb_eq]
      by_cases hge : gv y l.2.1 ≤ gv y n + l.2.2
      · rw [if_pos (by simpa [ige] using hge), if_pos hge, ck_succ hi (by omega)]
        exact hk (y, u, p) ⟨h1, h2, h3, by dsimp only; omega⟩
      · rw [if_neg (by simpa [ige] using hge), if_neg hge]
        have hset : gv (y.set l.2.1.toNat (gv y n + l.2.2)) n = gv x n := by
          rw [gv_set hr.2.1 hn.1 tt, if_neg (fun h => hnl (hln.trans h)), h3]
        have hself : gv (y.set l.2.1.toNat (gv y n + l.2.2)) l.2.1 = gv y n + l.2.2 := by
          rw [gv_set hr.2.1 hr.2.1 tt, if_pos rfl]
        rw [iff_rng hn.1 (by omega), nget_gv tn, ck_ok (by omega) (by omega), iff_rng hr.2.1 (by omega), nget_gv tt]
        rw [show (olen (List.set y l.2.1.toNat (gv y n + l.2.2))) = ((y.length : Nat) : Int) by simp [olen]]
        rw [iff_rng hr.2.1 (by omega), nget_gv (by simpa using tt), hself, ifb_eq]
        by_cases hlt : gv y n + l.2.2 < least
        · rw [if_pos (by simpa [ilt] using hlt), if_pos hlt]
        · rw [if_neg (by simpa [ilt] using hlt), if_neg hlt, iff_rng hr.2.1 (by omega), nget_wv tu, ifb_eq]
          cases hwv : wv u l.2.1 with
          | true =>
            rw [if_neg (by simp), if_pos rfl, ck_succ hi (by omega)]
            exact hk (y.set l.2.1.toNat (gv y n + l.2.2), u, p) ⟨by simpa using h1, h2, hset, by dsimp only; omega⟩
          | false =>
            rw [if_pos (by simp), if_neg (by simp), okLen_of (by simp only [List.length_singleton]; omega), Am.iff_true, iff_rng hr.2.1 (by omega), nget_wv tu, ck_succ hi (by omega)]
            exact hk (y.set l.2.1.toNat (gv y n + l.2.2), u.set l.2.1.toNat true, p ++ [l.2.1]) ⟨by simpa using h1, by simpa using h2, hset, by simp only [List.length_append, List.length_singleton]; omega⟩
    · have e0 : ine l.1 n = true := by simp [ine, hln]
      rw [ifb_t e0, if_pos hln, ck_succ hi (by omega)]
      exact hk (y, u, p) ⟨h1, h2, h3, by dsimp only; omega⟩
structure After (N : Nat) (n least : Int) (L : List Lk) (x : List Int) (q : List Int) (x' : List Int) (w' : List Bool) (q' : List Int) : Prop where
  lx : x'.length = N
  lw : w'.length = N
  same : gv x' n = gv x n
  le : ∀ v : Int, 0 ≤ v → v < N → gv x' v ≤ gv x v
  link : ∀ v m, (n, v, m) ∈ L → gv x' v ≤ gv x n + m
  chg : ∀ v : Int, 0 ≤ v → v < N → gv x' v = gv x v ∨ (v ∈ q' ∧ gv x' v < gv x v ∧ ∃ m, (n, v, m) ∈ L ∧ gv x' v = gv x n + m ∧ least ≤ gv x' v)
  new : ∃ l, q' = q ++ l ∧ ∀ v ∈ l, (0 ≤ v ∧ v < N) ∧ gv x' v < gv x v
  nodup : q'.Nodup
  waits : ∀ v : Int, 0 ≤ v → v < N → (wv w' v = true ↔ v ∈ q')
theorem linksF_after {N : Nat} {n least : Int} (hn : 0 ≤ n ∧ n < N) : ∀ {L : List Lk}, InR L N → (∀ l ∈ L, l.1 ≠ l.2.1) → ∀ {x : List Int} {w : List Bool} {q : List Int}, x.length = N → w.length = N → q.Nodup → (∀ v : Int, 0 ≤ v → v < N → (wv w v = true ↔ v ∈ q)) →
    ∀ {x' : List Int} {w' : List Bool} {q' : List Int}, linksF n least L x w q = (true, x', w', q') → After N n least L x q x' w' q'
  | [], _, _, x, w, q, hx, hw, hq, hwq, x', w', q', h => by
    cases h
    exact ⟨hx, hw, rfl, fun _ _ _ => Int.le_refl _, fun _ _ h => (by cases h), fun _ _ _ => .inl rfl, ⟨[], by simp, fun _ h => by cases h⟩, hq, hwq⟩
  | l :: t, hL, hnl, x, w, q, hx, hw, hq, hwq, x', w', q', h => by
    have hLt : InR t N := fun l hl => hL l (by simp [hl])
    have hnt : ∀ l ∈ t, l.1 ≠ l.2.1 := fun l hl => hnl l (by simp [hl])
    have hr := hL l (by simp)
    have hl0 := hnl l (by simp)
    unfold linksF at h
    split at h
    · rename_i hne
      have a := linksF_after hn hLt hnt hx hw hq hwq h
      exact ⟨a.lx, a.lw, a.same, a.le, fun v m hm => by
        rcases List.mem_cons.1 hm with rfl | hm
        · exact (hne rfl).elim
        · exact a.link v m hm, fun v h0 h1 => (a.chg v h0 h1).imp id fun ⟨g1, g2, m, g3, g4⟩ => ⟨g1, g2, m, by simp [g3], g4⟩, a.new, a.nodup, a.waits⟩
    · rename_i hne
      have hln : l.1 = n := by simpa using hne
      split at h
      · rename_i hle
        have a := linksF_after hn hLt hnt hx hw hq hwq h
        exact ⟨a.lx, a.lw, a.same, a.le, fun v m hm => by
          rcases List.mem_cons.1 hm with rfl | hm
          · have := a.le v hr.2.1 hr.2.2; simp only at hle; omega
          · exact a.link v m hm, fun v h0 h1 => (a.chg v h0 h1).imp id fun ⟨g1, g2, m, g3, g4⟩ => ⟨g1, g2, m, by simp [g3], g4⟩, a.new, a.nodup, a.waits⟩
      · rename_i hgt
        split at h
        · cases h
        · rename_i hls
          have tt : l.2.1.toNat < x.length := by omega
          have tw : l.2.1.toNat < w.length := by omega
          have hy : (x.set l.2.1.toNat (gv x n + l.2.2)).length = N := by simpa using hx
          have hyn : gv (x.set l.2.1.toNat (gv x n + l.2.2)) n = gv x n := by
            rw [gv_set hr.2.1 hn.1 tt, if_neg (fun h => hl0 (hln.trans h))]
          have hyv : ∀ v, 0 ≤ v → gv (x.set l.2.1.toNat (gv x n + l.2.2)) v = if v = l.2.1 then gv x n + l.2.2 else gv x v := fun v h0 => gv_set hr.2.1 h0 tt _
          have hlm : (n, l.2.1, l.2.2) ∈ l :: t := by rw [← hln]; simp
          -- what both ways have in common
          have fin : ∀ {w1 : List Bool} {q1 : List Int}, After N n least t (x.set l.2.1.toNat (gv x n + l.2.2)) q1 x' w' q' → l.2.1 ∈ q1 → (∃ l', q1 = q ++ l' ∧ ∀ v ∈ l', v = l.2.1) → After N n least (l :: t) x q x' w' q' := by
            intro w1 q1 a hmem hq1
            obtain ⟨new, hnew, hnv⟩ := a.new
            obtain ⟨l', hl', hlv⟩ := hq1
            have hto : gv x' l.2.1 ≤ gv x n + l.2.2 := by
              have := a.le l.2.1 hr.2.1 hr.2.2
              rw [hyv _ hr.2.1, if_pos rfl] at this
              exact this
            refine ⟨a.lx, a.lw, a.same.trans hyn, fun v h0 h1 => ?_, fun v m hm => ?_, fun v h0 h1 => ?_, ⟨l' ++ new, by rw [hnew, hl', List.append_assoc], fun v hv => ?_⟩, a.nodup, a.waits⟩
            · have := a.le v h0 h1
              rw [hyv v h0] at this
              split at this
              · rename_i e; subst e; omega
              · exact this
            · rcases List.mem_cons.1 hm with rfl | hm
              · exact hto
              · have := a.link v m hm
                rwa [hyn] at this
            · rcases a.chg v h0 h1 with g | ⟨g1, g2, m, g3, g4, g5⟩
              · rw [hyv v h0] at g
                split at g
                · rename_i e
                  subst e
                  exact .inr ⟨by rw [hnew]; exact List.mem_append_left _ hmem, by omega, l.2.2, hlm, g, by omega⟩
                · exact .inl g
              · rw [hyv v h0] at g2
                rw [hyn] at g4
                refine .inr ⟨g1, ?_, m, by simp [g3], g4, g5⟩
                split at g2
                · rename_i e; subst e; omega
                · exact g2
            · rcases List.mem_append.1 hv with hv | hv
              · rw [hlv v hv]; exact ⟨hr.2, by omega⟩
              · obtain ⟨g1, g2⟩ := hnv v hv
                rw [hyv v g1.1] at g2
                refine ⟨g1, ?_⟩
                split at g2
                · rename_i e; subst e; omega
                · exact g2
          split at h
          · rename_i hwt
            exact fin (w1 := w) (linksF_after hn hLt hnt hy hw hq hwq h) ((hwq _ hr.2.1 hr.2.2).1 hwt) ⟨[], by simp, fun _ h => by cases h⟩
          · rename_i hwt
            have hnq : l.2.1 ∉ q := fun hc => hwt ((hwq _ hr.2.1 hr.2.2).2 hc)
            refine fin (w1 := w.set l.2.1.toNat true) (linksF_after hn hLt hnt hy (by simpa using hw) ?_ ?_ h) (by simp) ⟨[l.2.1], rfl, fun v hv => by simpa using hv⟩
            · rw [List.nodup_append]
              exact ⟨hq, by simp, fun a ha b hb => by simp at hb; subst hb; exact fun e => hnq (e ▸ ha)⟩
            · intro v h0 h1
              rw [wv_set hr.2.1 h0 tw]
              by_cases hv : v = l.2.1
              · simp [hv]
              · simp only [hv, if_false, List.mem_append, List.mem_singleton, or_false]
                exact hwq v h0 h1
theorem linksF_false {n least : Int} : ∀ {L : List Lk}, (∀ l ∈ L, l.1 ≠ l.2.1) → (∀ l ∈ L, 0 ≤ l.2.1) → 0 ≤ n → ∀ {x : List Int} {w : List Bool} {q : List Int} {r}, linksF n least L x w q = (false, r) → ∃ v m, (n, v, m) ∈ L ∧ gv x n + m < least
  | [], _, _, _, x, w, q, r, h => by cases h
  | l :: t, hnl, h0, hn, x, w, q, r, h => by
    have hnt : ∀ l ∈ t, l.1 ≠ l.2.1 := fun l hl => hnl l (by simp [hl])
    have h0t : ∀ l ∈ t, 0 ≤ l.2.1 := fun l hl => h0 l (by simp [hl])
    have up : (∃ v m, (n, v, m) ∈ t ∧ gv x n + m < least) → ∃ v m, (n, v, m) ∈ l :: t ∧ gv x n + m < least := fun ⟨v, m, g1, g2⟩ => ⟨v, m, by simp [g1], g2⟩
    unfold linksF at h
    split at h
    · exact up (linksF_false hnt h0t hn h)
    · rename_i hne
      have hln : l.1 = n := by simpa using hne
      split at h
      · exact up (linksF_false hnt h0t hn h)
      · split at h
        · rename_i hlt
          exact ⟨l.2.1, l.2.2, by rw [← hln]; simp, hlt⟩
        · have hyn : gv (x.set l.2.1.toNat (gv x n + l.2.2)) n = gv x n := by
            unfold gv
            rw [List.getElem?_set]
            have h1 := hnl l (by simp)
            have h2 := h0 l (by simp)
            have : ¬ l.2.1.toNat = n.toNat := by omega
            simp [this]
          split at h
          · have := linksF_false hnt h0t hn h
            rw [hyn] at this
            exact up this
          · have := linksF_false hnt h0t hn h
            rw [hyn] at this
            exact up this
end Go.Proofs.ZzM
end

noncomputable section
namespace Go.Proofs.ZzM
open Go Go.Am
theorem outer_ok {ρ : Type} {L : List Lk} {N : Nat} {M : Int} (hL : LinksOk L N M) {n least : Int} (hn : 0 ≤ n ∧ n < N) {x : List Int} {w : List Bool} {t rest : List Int} (hx : x.length = N) (hw : w.length = N) (ht : t.length = N) (hq : rest.length ≤ 1000000)
    (hb : -2305843009213693952 ≤ gv x n ∧ gv x n ≤ 2305843009213693952) (htn : 0 ≤ gv t n ∧ gv t n ≤ 1000000) (kn : List Int → List Bool → List Int → List Int → Option ρ) (k0 : (Val (.pair .bool (.pair (.slice tI) (.pair (.slice .bool) (.pair (.slice tI) (.slice tI)))))) → Option ρ) :
    m_h_solution_L2 [] least (N : Int) L x w t (n :: rest) kn k0 =
      if (N : Int) + 1 < gv t n + 1 then k0 (false, x, w.set n.toNat false, t.set n.toNat (gv t n + 1), rest) else
      match linksF n least L x (w.set n.toNat false) rest with
      | (true, x', w', q') => kn x' w' (t.set n.toNat (gv t n + 1)) q'
      | (false, x', w', q') => k0 (false, x', w', t.set n.toNat (gv t n + 1), q') := by
  have hN := hL.nodes
  have tn : n.toNat < x.length := by omega
  have tw : n.toNat < w.length := by omega
  have tt : n.toNat < t.length := by omega
  unfold m_h_solution_L2
  have e0 : ieq (ilen (n :: rest)) 0 = false := by
    rw [ilen_eq]
    simp only [ieq, List.length_cons, beq_eq_false_iff_ne, ne_eq]
    omega
  have e1 : ilt (0 : Int) (olen (n :: rest)) = true := by simp [ilt, olen]
  have e2 : ile (1 : Int) (olen (n :: rest)) = true := by simp [ile, olen]; omega
  have e3 : decide (1 + (List.length (n :: rest) - 1) = List.length (n :: rest)) = true := by simp; omega
  rw [ifb_f e0, iff_of e1]
  rw [show nget (n :: rest) 0 = fun (f : Int → Option ρ) => f n from rfl]
  try dsimp only
  rw [iff_of e2, iff_of e3, iff_rng hn.1 (by omega), nget_wv tw, iff_rng hn.1 (by omega), nget_gv tt, ck_ok (by omega) (by omega), iff_rng hn.1 (by omega), nget_gv tt]
  rw [show (olen (List.set t n.toNat (gv t n + 1))) = ((t.length : Nat) : Int) by simp [olen]]
  rw [iff_rng hn.1 (by omega), nget_gv (by simpa using tt), gv_set hn.1 hn.1 tt, if_pos rfl, ck_ok (by omega) (by omega), ifb_eq]
  rw [show List.drop 1 (n :: rest) = rest from rfl]
  by_cases hlt : (N : Int) + 1 < gv t n + 1
  · rw [if_pos (by simpa [igt] using hlt), if_pos hlt]
  · rw [if_neg (by simpa [igt] using hlt), if_neg hlt]
    rw [inner_ok hL hn hx (w := w.set n.toNat false) (by simpa using hw) hq hb]
    generalize linksF n least L x (w.set n.toNat false) rest = r
    obtain ⟨b, x', w', q'⟩ := r
    cases b <;> rfl
theorem outer_nil {ρ : Type} {L : List Lk} {N : Int} {least : Int} {x : List Int} {w : List Bool} {t : List Int} (kn : List Int → List Bool → List Int → List Int → Option ρ) (k0 : (Val (.pair .bool (.pair (.slice tI) (.pair (.slice .bool) (.pair (.slice tI) (.slice tI)))))) → Option ρ) :
    m_h_solution_L2 [] least N L x w t [] kn k0 = k0 (true, x, w, t, []) := by
  unfold m_h_solution_L2
  have e0 : ieq (ilen ([] : List Int)) 0 = true := by rw [ilen_eq]; rfl
  rw [ifb_t e0]
def left_ (N : Nat) (t : List Int) : Nat := (t.map fun a => ((N : Int) + 2 - a).toNat).sum
theorem left_set (N : Nat) : ∀ (t : List Int) (i : Nat) (a b : Int), t[i]? = some a → a < b → a < (N : Int) + 2 → left_ N (t.set i b) < left_ N t
  | a0 :: t, 0, a, b, h, h1, h2 => by
    simp at h; subst h
    simp only [left_, List.set_cons_zero, List.map_cons, List.sum_cons]
    omega
  | a0 :: t, i + 1, a, b, h, h1, h2 => by
    have := left_set N t i a b (by simpa using h) h1 h2
    simp only [left_] at this
    simp only [left_, List.set_cons_succ, List.map_cons, List.sum_cons]
    omega
theorem left_set' {N : Nat} {t : List Int} {n : Int} (hn : n.toNat < t.length) (h : gv t n ≤ (N : Int) + 1) : left_ N (t.set n.toNat (gv t n + 1)) < left_ N t :=
  left_set N t n.toNat (gv t n) _ (gv_get hn) (by omega) (by omega)
structure Spfa (L : List Lk) (S : Int → Prop) (N : Nat) (M : Int) (k : Nat) (A B : List Int) (x : List Int) (w : List Bool) (t q : List Int) : Prop where
  q_eq : q = A ++ B
  lx : x.length = N
  lw : w.length = N
  lt : t.length = N
  nodup : q.Nodup
  rng : ∀ v ∈ q, 0 ≤ v ∧ v < N
  waits : ∀ v : Int, 0 ≤ v → v < N → (wv w v = true ↔ v ∈ q)
  t0 : ∀ v : Int, 0 ≤ v → v < N → 0 ≤ gv t v ∧ gv t v ≤ (k : Int) + 1
  tA : ∀ v ∈ A, gv t v ≤ k
  low : ∀ vs v d, Wl L S vs v d → vs.length ≤ k → gv x v ≤ d
  nxt : ∀ vs u d, Wl L S vs u d → vs.length ≤ k → u ∉ A → ∀ v m, (u, v, m) ∈ L → gv x v ≤ d + m
  rel : ∀ u : Int, 0 ≤ u → u < N → u ∉ q → gv x u ≠ Free → ∀ v m, (u, v, m) ∈ L → gv x v ≤ gv x u + m
  att : ∀ v : Int, 0 ≤ v → v < N → gv x v ≠ Free → ∃ vs, Wl L S vs v (gv x v)
  bd : ∀ v : Int, 0 ≤ v → v < N → gv x v = Free ∨ gv x v ≤ ((k : Int) + 1) * M
  bA : ∀ v ∈ A, gv x v ≤ (k : Int) * M
  fin : ∀ v ∈ q, gv x v < Free
  kN : k + 1 ≤ N
  last : k + 1 = N → B = []
section
variable {L : List Lk} {S : Int → Prop} {N : Nat} {M : Int} {p : Int → Int} {k : Nat} {A B x : List Int} {w : List Bool} {t q : List Int}
theorem mul_mono {a b : Nat} {M : Int} (h : a ≤ b) (hM : 0 ≤ M) : (a : Int) * M ≤ (b : Int) * M := Int.mul_le_mul_of_nonneg_right (by omega) hM
theorem Wl.lt_free (hL : LinksOk L N M) (hNM : N * M < Free) {vs : List Int} {v d : Int} (hw : Wl L S vs v d) (h : vs.length ≤ N) : d < Free := by
  have h1 := hw.high fun l hl => (hL.most l hl).2
  have h2 := mul_mono h hL.m0
  omega
theorem Spfa.next (hL : LinksOk L N M) (hNM : N * M < Free) (hS : ∀ v, S v → 0 ≤ v ∧ v < N) (h : Spfa L S N M k [] B x w t q) (hB : B ≠ []) : Spfa L S N M (k + 1) B [] x w t q := by
  have hM := hL.m0
  have hq : q = B := by simpa using h.q_eq
  have hk : k + 1 ≠ N := fun e => hB (h.last e)
  have hkN := h.kN
  have low' : ∀ vs v d, Wl L S vs v d → vs.length ≤ k + 1 → gv x v ≤ d := by
    intro vs v d hw hl
    cases hw with
    | nil hs => exact h.low [] v 0 (.nil hs) (by simp)
    | @step vs u _ m d hw hlk => exact h.nxt vs u d hw (by simpa using hl) (by simp) v m hlk
  refine ⟨by simp [hq], h.lx, h.lw, h.lt, h.nodup, h.rng, h.waits, fun v h0 h1 => ⟨(h.t0 v h0 h1).1, by have := (h.t0 v h0 h1).2; push_cast; omega⟩, fun v hv => ?_, low', fun vs u d hw hl hu v m hlk => ?_, h.rel, h.att, fun v h0 h1 => ?_, fun v hv => ?_, h.fin, by omega, fun _ => rfl⟩
  · have := h.rng v (by rw [hq]; exact hv)
    have := (h.t0 v this.1 this.2).2
    push_cast; omega
  · have h1 := low' vs u d hw hl
    have h2 := hw.lt_free hL hNM (by omega)
    have h3 := (hw.range hL.inr hS).1
    have := h.rel u h3.1 h3.2 (by rw [hq]; exact hu) (by omega) v m hlk
    omega
  · rcases h.bd v h0 h1 with h2 | h2
    · exact .inl h2
    · refine .inr ?_
      have := mul_mono (show k + 1 ≤ k + 1 + 1 by omega) hM
      push_cast at this ⊢
      omega
  · have h1 := h.rng v (by rw [hq]; exact hv)
    have h2 := h.fin v (by rw [hq]; exact hv)
    rcases h.bd v h1.1 h1.2 with h3 | h3
    · omega
    · push_cast; exact h3
theorem Spfa.step {n : Int} {A' : List Int} {least : Int} {x' : List Int} {w' : List Bool} {q' : List Int} (hL : LinksOk L N M) (hNM : N * M < Free) (hp : Pot L p) (hS : ∀ v, S v → 0 ≤ v ∧ v < N) (h : Spfa L S N M k (n :: A') B x w t q)
    (ha : After N n least L x (A' ++ B) x' w' q') : ∃ B', Spfa L S N M k A' B' x' w' (t.set n.toNat (gv t n + 1)) q' := by
  have hM := hL.m0
  have hq : q = n :: (A' ++ B) := by simpa using h.q_eq
  have hkN := h.kN
  have hnr := h.rng n (by rw [hq]; simp)
  have hnf := h.fin n (by rw [hq]; simp)
  have hnd : n ∉ A' ++ B := by have := h.nodup; rw [hq, List.nodup_cons] at this; exact this.1
  have htn : n.toNat < t.length := by have := h.lt; omega
  have tset : ∀ v, 0 ≤ v → gv (t.set n.toNat (gv t n + 1)) v = if v = n then gv t n + 1 else gv t v := fun v h0 => gv_set hnr.1 h0 htn _
  have hkM : ((k : Int) + 1) * M < Free := by
    have := mul_mono hkN hM
    push_cast at this
    omega
  have xle : ∀ v : Int, 0 ≤ v → v < N → gv x v ≤ Free := fun v h0 h1 => by rcases h.bd v h0 h1 with h2 | h2 <;> omega
  obtain ⟨l, hl, hlv⟩ := ha.new
  have att' : ∀ v : Int, 0 ≤ v → v < N → gv x' v ≠ Free → ∃ vs, Wl L S vs v (gv x' v) := by
    intro v h0 h1 hne
    rcases ha.chg v h0 h1 with g | ⟨_, _, m, g3, g4, _⟩
    · rw [g] at hne ⊢; exact h.att v h0 h1 hne
    · obtain ⟨vs, hw⟩ := h.att n hnr.1 hnr.2 (by omega)
      rw [g4]; exact ⟨_, hw.step g3⟩
  refine ⟨B ++ l, by rw [hl, List.append_assoc], ha.lx, ha.lw, by rw [List.length_set]; exact h.lt, ha.nodup, fun v hv => ?_, ha.waits, fun v h0 h1 => ?_, fun v hv => ?_, fun vs v d hw hlen => ?_, fun vs u d hw hlen hu v m hlk => ?_,
    fun u h0 h1 hu hf v m hlk => ?_, att', fun v h0 h1 => ?_, fun v hv => ?_, fun v hv => ?_, hkN, fun hk => ?_⟩
  · rw [hl] at hv
    rcases List.mem_append.1 hv with hv | hv
    · exact h.rng v (by rw [hq]; simp only [List.mem_cons]; exact .inr hv)
    · exact (hlv v hv).1
  · rw [tset v h0]
    have h2 := h.t0 v h0 h1
    split
    · have h3 := h.tA n (by simp)
      have h4 := h.t0 n hnr.1 hnr.2
      omega
    · exact h2
  · have h1 := h.rng v (by rw [hq]; simp [hv])
    rw [tset v h1.1, if_neg (fun e => hnd (by rw [← e]; simp [hv]))]
    exact h.tA v (by simp [hv])
  · have h1 := h.low vs v d hw hlen
    have h2 := (hw.range hL.inr hS).1
    have := ha.le v h2.1 h2.2
    omega
  · have hvr := (hL.inr _ hlk).2
    by_cases hun : u = n
    · subst hun
      have h1 := ha.link v m hlk
      have h2 := h.low vs u d hw hlen
      omega
    · have h1 := h.nxt vs u d hw hlen (by simp [hun, hu]) v m hlk
      have := ha.le v hvr.1 hvr.2
      omega
  · have hvr := (hL.inr _ hlk).2
    have heq : gv x' u = gv x u := by
      rcases ha.chg u h0 h1 with g | ⟨g, _⟩
      · exact g
      · exact (hu g).elim
    by_cases hun : u = n
    · subst hun
      have h1 := ha.link v m hlk
      omega
    · have hur : u ∉ q := by
        rw [hq]
        intro hc
        rcases List.mem_cons.1 hc with e | hc
        · exact hun e
        · exact hu (by rw [hl]; exact List.mem_append_left _ hc)
      have h2 := h.rel u h0 h1 hur (by rw [← heq]; exact hf) v m hlk
      have := ha.le v hvr.1 hvr.2
      omega
  · rcases ha.chg v h0 h1 with g | ⟨_, _, m, g3, g4, _⟩
    · rw [g]; exact h.bd v h0 h1
    · have h2 := h.bA n (by simp)
      have h3 := (hL.most _ g3).2
      simp only at h3
      refine .inr ?_
      rw [g4, Int.add_mul, Int.one_mul]
      omega
  · have h1 := h.rng v (by rw [hq]; simp [hv])
    have h2 := h.bA v (by simp [hv])
    have := ha.le v h1.1 h1.2
    omega
  · rw [hl] at hv
    rcases List.mem_append.1 hv with hv | hv
    · have h1 := h.rng v (by rw [hq]; simp only [List.mem_cons]; exact .inr hv)
      have h2 := h.fin v (by rw [hq]; simp only [List.mem_cons]; exact .inr hv)
      have := ha.le v h1.1 h1.2
      omega
    · obtain ⟨g1, g2⟩ := hlv v hv
      have := xle v g1.1 g1.2
      omega
  · rw [h.last hk]
    cases l with
    | nil => rfl
    | cons v l =>
      exfalso
      obtain ⟨g1, g2⟩ := hlv v (by simp)
      have := xle v g1.1 g1.2
      obtain ⟨vs, hw⟩ := att' v g1.1 g1.2 (by omega)
      obtain ⟨vs', d', k1, k2, k3⟩ := hw.simple hp
      have k4 := k1.short hL.inr hS k3
      have := h.low vs' v d' k1 (by omega)
      omega
theorem Spfa.done (hL : LinksOk L N M) (hNM : N * M < Free) (hp : Pot L p) (hS : ∀ v, S v → 0 ≤ v ∧ v < N) (h : Spfa L S N M k A B x w t []) : Dist L S N (gv x) := by
  have hkN := h.kN
  have hM := hL.m0
  have hkM : ((k : Int) + 1) * M < Free := by
    have := mul_mono hkN hM
    push_cast at this
    omega
  have key : ∀ vs v d, Wl L S vs v d → vs.length + 1 ≤ N → gv x v ≤ d := by
    intro vs v d hw
    induction hw with
    | nil hs => intro _; exact h.low [] _ 0 (.nil hs) (by simp)
    | @step vs u v m d hw hlk ih =>
      intro hlen
      simp only [List.length_cons] at hlen
      have h1 := ih (by omega)
      have h2 := hw.lt_free hL hNM (by omega)
      have h3 := (hw.range hL.inr hS).1
      have := h.rel u h3.1 h3.2 (by simp) (by omega) v m hlk
      omega
  refine ⟨h.att, fun v vs d hw => ?_, fun v h0 h1 => ?_⟩
  · obtain ⟨vs', d', k1, k2, k3⟩ := hw.simple hp
    have := key vs' v d' k1 (k1.short hL.inr hS k3)
    omega
  · rcases h.bd v h0 h1 with h2 | h2 <;> omega
theorem spfa_cons {ρ : Type} {r : Option ρ} (hL : LinksOk L N M) (hNM : N * M < Free) (hp : Pot L p) (hS : ∀ v, S v → 0 ≤ v ∧ v < N) (k0 : (Val (.pair .bool (.pair (.slice tI) (.pair (.slice .bool) (.pair (.slice tI) (.slice tI)))))) → Option ρ)
    (hK : ∀ x w t q, x.length = N → Dist L S N (gv x) → k0 (true, x, w, t, q) = r) (h : Spfa L S N M k A B x w t q) :
    loopT (fun (v64 : (Val (.pair (.slice tI) (.pair (.slice .bool) (.pair (.slice tI) (.slice tI)))))) kk69 => m_h_solution_L2 [] (negS L) (N : Int) L v64.1 v64.2.1 v64.2.2.1 v64.2.2.2 (fun u65 u66 u67 u68 => kk69 (u65, u66, u67, u68)) k0) (x, w, t, q) = r := by
  refine loop_inv (fun s : List Int × List Bool × List Int × List Int => ∃ k A B, Spfa L S N M k A B s.1 s.2.1 s.2.2.1 s.2.2.2) (fun s => left_ N s.2.2.1) ?_ ⟨k, A, B, h⟩
  rintro ⟨x, w, t, q⟩ ⟨k, A, B, h⟩
  dsimp only at h ⊢
  have hN := hL.nodes
  cases q with
  | nil => exact .inl fun kn => by rw [outer_nil]; exact hK x w t [] h.lx (h.done hL hNM hp hS)
  | cons n rest =>
    -- the phase in which the first one is
    have hph : ∃ k A' B, Spfa L S N M k (n :: A') B x w t (n :: rest) := by
      cases A with
      | nil =>
        have hB : B = n :: rest := by simpa using h.q_eq.symm
        subst hB
        exact ⟨k + 1, rest, [], h.next hL hNM hS (by simp)⟩
      | cons a A' =>
        have := h.q_eq
        simp only [List.cons_append, List.cons.injEq] at this
        obtain ⟨rfl, _⟩ := this
        exact ⟨k, A', B, h⟩
    clear h k A B
    obtain ⟨k, A', B, h⟩ := hph
    have hrest : rest = A' ++ B := by have := h.q_eq; simpa using this
    have hnr := h.rng n (by simp)
    have hnf := h.fin n (by simp)
    have hkN := h.kN
    have h1 := h.tA n (by simp)
    have h2 := h.t0 n hnr.1 hnr.2
    obtain ⟨vs, hw⟩ := h.att n hnr.1 hnr.2 (by omega)
    have hlow := hw.low' hp
    have hneg : -(400 * 4503599627370496) ≤ negS L := by
      have : ∀ L' : List Lk, (∀ l ∈ L', -M ≤ l.2.2) → -((L'.length : Int) * M) ≤ negS L' := by
        intro L'
        induction L' with
        | nil => intro _; simp [negS, negF]
        | cons l t ih =>
          intro hh
          have i1 := ih fun l hl => hh l (by simp [hl])
          have i2 := hh l (by simp)
          have i3 := hL.m0
          unfold negS at i1 ⊢
          simp only [negF, if_true, List.length_cons, Int.natCast_succ, Int.add_mul, Int.one_mul]
          omega
      have h3 := this L fun l hl => (hL.most l hl).1
      have h4 : (L.length : Int) * M ≤ 400 * 4503599627370496 := Int.mul_le_mul (by have := hL.len; omega) hL.m1 hL.m0 (by omega)
      omega
    have hrl : rest.length ≤ 1000000 := by
      have := pigeon N (n :: rest) h.nodup h.rng
      simp only [List.length_cons] at this
      omega
    refine .inr ?_
    have hw' : (w.set n.toNat false).length = N := by rw [List.length_set]; exact h.lw
    cases hr : linksF n (negS L) L x (w.set n.toNat false) rest with
    | mk b r' =>
    obtain ⟨x', w', q'⟩ := r'
    cases b with
    | false =>
      exfalso
      obtain ⟨v, m, g1, g2⟩ := linksF_false hL.noloop (fun l hl => (hL.inr l hl).2.1) hnr.1 hr
      have := (hw.step g1).low' hp
      omega
    | true =>
      have hnd := h.nodup
      rw [List.nodup_cons] at hnd
      have ha := linksF_after hnr hL.inr hL.noloop h.lx hw' hnd.2 (fun v h0 h1 => by
        rw [wv_set hnr.1 h0 (by have := h.lw; omega)]
        by_cases hv : v = n
        · subst hv; simp [hnd.1]
        · rw [if_neg hv, h.waits v h0 h1]
          simp [hv]) hr
      rw [hrest] at ha
      obtain ⟨B', hB'⟩ := h.step hL hNM hp hS ha
      refine ⟨(x', w', t.set n.toNat (gv t n + 1), q'), ⟨k, A', B', hB'⟩, left_set' (by have := h.lt; omega) (by omega), fun kn => ?_⟩
      have hF : Free = 1152921504606846976 := rfl
      rw [outer_ok hL hnr h.lx h.lw h.lt hrl (by constructor <;> omega) (by constructor <;> omega), if_neg (by omega), hr]
end
end Go.Proofs.ZzM
end

noncomputable section
namespace Go.Proofs.ZzM
open Go Go.Am
theorem negF_append (f : Lk → Bool) : ∀ (L L' : List Lk), negF f (L ++ L') = negF f L + negF f L'
  | [], L' => by simp [negF]
  | l :: t, L' => by
    simp only [List.cons_append, negF, negF_append f t L']
    omega
theorem negS_take {L : List Lk} {i : Nat} {l : Lk} (h : L[i]? = some l) : negS (L.take (i + 1)) = negS (L.take i) + min l.2.2 0 := by
  rw [take_succ h, negS, negS, negF_append]
  simp [negF]
theorem imin0 (e : Int) : imin e 0 = min e 0 := by
  unfold imin
  split <;> omega
theorem negS_ge {L : List Lk} {M : Int} (h : ∀ l ∈ L, -M ≤ l.2.2) (hM : 0 ≤ M) : -((L.length : Int) * M) ≤ negS L := by
  induction L with
  | nil => simp [negS, negF]
  | cons l t ih =>
    have i1 := ih fun l hl => h l (by simp [hl])
    have i2 := h l (by simp)
    unfold negS at i1 ⊢
    simp only [negF, if_true, List.length_cons, Int.natCast_succ, Int.add_mul, Int.one_mul]
    omega
theorem negS_le (L : List Lk) : negS L ≤ 0 := negF_nonpos _ L
section
variable {ρ : Type} {L : List Lk} {N : Nat} {M : Int}
theorem least_ok (hL : LinksOk L N M) (k0 : Int → Option ρ) : loopT (fun (v75 : Val tySpan) kk78 => m_h_solution_L0 L (ilen L) v75.1 v75.2 (fun u76 u77 => kk78 (u76, u77)) k0) ((0 : Int), (0 : Int)) = k0 (negS L) := by
  refine loop_inv (fun x : Int × Int => ∃ i : Nat, i ≤ L.length ∧ x = (negS (L.take i), (i : Int))) (fun x => L.length - x.2.toNat) ?_ ⟨0, by omega, rfl⟩
  rintro x ⟨i, hi, rfl⟩
  have hlen := hL.len
  rcases Nat.lt_or_ge i L.length with h | h
  · have hl : L[i]? = some L[i] := List.getElem?_eq_getElem h
    refine .inr ⟨(negS (L.take (i + 1)), (i : Int) + 1), ⟨i + 1, h, by simp⟩, by simp; omega, fun kn => ?_⟩
    try dsimp only
    unfold m_h_solution_L0
    have hb : ∀ j, j ≤ L.length → -(400 * 4503599627370496) ≤ negS (L.take j) := by
      intro j hj
      have h1 := negS_ge (L := L.take j) (fun l hl => (hL.most l (List.mem_of_mem_take hl)).1) hL.m0
      have h2 : ((L.take j).length : Int) * M ≤ 400 * 4503599627370496 := Int.mul_le_mul (by rw [List.length_take]; omega) hL.m1 hL.m0 (by omega)
      omega
    have h1 := hb i hi
    have h2 := hb (i + 1) h
    have h3 := negS_le (L.take i)
    rw [negS_take hl] at h2
    rw [ifb_lt' h, iget_nat hl, imin0, ck_ok (by omega) (by omega), ck_succ h (by omega), negS_take hl]
  · refine .inl fun kn => ?_
    have : i = L.length := by omega
    subst this
    try dsimp only
    unfold m_h_solution_L0
    rw [ifb_ge, List.take_length]
theorem srcs_ok {x : List Int} (hx : x.length = N) (hN : N ≤ 1000) {r : Option ρ} (k0 : (Val (.pair (.slice .bool) (.slice tI))) → Option ρ)
    (hK : ∀ (w : List Bool) (q : List Int), w.length = N → q.Nodup → (∀ v ∈ q, 0 ≤ v ∧ v < N) → (∀ v : Int, 0 ≤ v → v < N → (wv w v = true ↔ v ∈ q)) → (∀ v : Int, 0 ≤ v → v < N → (v ∈ q ↔ gv x v ≠ Free)) → k0 (w, q) = r) :
    loopT (fun (v70 : (Val (.pair tI (.pair (.slice .bool) (.slice tI))))) kk74 => m_h_solution_L1 (N : Int) x v70.1 v70.2.1 v70.2.2 (fun u71 u72 u73 => kk74 (u71, u72, u73)) k0) ((0 : Int), (List.replicate N false), ([] : List Int)) = r := by
  refine loop_inv (fun s : Int × List Bool × List Int => ∃ i : Nat, i ≤ N ∧ s.1 = i ∧ s.2.1.length = N ∧ s.2.2.Nodup ∧ s.2.2.length ≤ i ∧ (∀ v ∈ s.2.2, 0 ≤ v ∧ v < i) ∧ (∀ v : Int, 0 ≤ v → v < N → (wv s.2.1 v = true ↔ v ∈ s.2.2)) ∧ (∀ v : Int, 0 ≤ v → v < i → (v ∈ s.2.2 ↔ gv x v ≠ Free))) (fun s => N - s.1.toNat) ?_
    ⟨0, by omega, rfl, by simp, by simp, by simp, by simp, fun v h0 h1 => ?_, fun v h0 h1 => by omega⟩
  · rintro ⟨s, w, q⟩ ⟨i, hi, h1, h2, h3, h4, h5, h6, h7⟩
    simp only at h1 h2 h3 h4 h5 h6 h7
    subst h1
    rcases Nat.lt_or_ge i N with h | h
    · refine .inr ?_
      have hix : i < x.length := by omega
      have hiw : i < w.length := by omega
      have hnq : ((i : Int)) ∉ q := fun hc => by have := (h5 _ hc).2; omega
      by_cases hf : gv x i = Free
      · refine ⟨((i : Int) + 1, w, q), ⟨i + 1, h, by simp, h2, h3, by simp only; omega, fun v hv => ⟨(h5 v hv).1, by have := (h5 v hv).2; push_cast; omega⟩, h6, fun v h0 h1 => ?_⟩, by simp; omega, fun kn => ?_⟩
        · by_cases hv : v = i
          · subst hv; simp [hf, hnq]
          · exact h7 v h0 (by push_cast at h1; omega)
        · try dsimp only
          unfold m_h_solution_L1
          have e : ilt (i : Int) (N : Int) = true := by simp [ilt, h]
          rw [ifb_t e, iff_idx hix, nget_gv (by simpa using hix)]
          have e2 : ine (gv x i) 1152921504606846976 = false := by simp [ine, hf]
          rw [ifb_f e2, ck_succ h (by omega)]
      · refine ⟨((i : Int) + 1, w.set i true, q ++ [(i : Int)]), ⟨i + 1, h, by simp, by simpa using h2, ?_, by simp; omega, fun v hv => ?_, fun v h0 h1 => ?_, fun v h0 h1 => ?_⟩, by simp; omega, fun kn => ?_⟩
        · rw [List.nodup_append]
          exact ⟨h3, by simp, fun a ha b hb => by simp at hb; subst hb; exact fun e => hnq (e ▸ ha)⟩
        · rcases List.mem_append.1 hv with hv | hv
          · exact ⟨(h5 v hv).1, by have := (h5 v hv).2; push_cast; omega⟩
          · simp at hv; subst hv; push_cast; omega
        · have := wv_set (w := w) (u := (i : Int)) (by omega) h0 (by simpa using hiw) true
          rw [Int.toNat_natCast] at this
          show wv (w.set i true) v = true ↔ v ∈ q ++ [(i : Int)]
          rw [this]
          by_cases hv : v = i
          · simp [hv]
          · simp only [hv, if_false, List.mem_append, List.mem_singleton, or_false]
            exact h6 v h0 h1
        · show v ∈ q ++ [(i : Int)] ↔ _
          by_cases hv : v = i
          · subst hv; simp [hf]
          · simp only [List.mem_append, List.mem_singleton, hv, or_false]
            exact h7 v h0 (by push_cast at h1; omega)
        · try dsimp only
          unfold m_h_solution_L1
          have e : ilt (i : Int) (N : Int) = true := by simp [ilt, h]
          rw [ifb_t e, iff_idx hix, nget_gv (by simpa using hix)]
          have e2 : ine (gv x i) 1152921504606846976 = true := by simp [ine, hf]
          rw [ifb_t e2, okLen_of (by simp only [List.length_singleton]; omega), Am.iff_true, iff_idx hiw, nget_wv (by simpa using hiw), ck_succ h (by omega), Int.toNat_natCast]
    · refine .inl fun kn => ?_
      have : i = N := by omega
      subst this
      try dsimp only
      unfold m_h_solution_L1
      have e : ilt (i : Int) (i : Int) = false := by simp [ilt]
      rw [ifb_f e]
      exact hK w q h2 h3 h5 h6 h7
  · have : wv (List.replicate N false) v = false := by
      unfold wv
      rw [List.getElem?_replicate]
      split <;> rfl
    simp [this]
theorem spfa_start (hL : LinksOk L N M) (hN : 1 ≤ N) {S : Int → Bool} (hS : ∀ v, S v = true → 0 ≤ v ∧ v < N) {w : List Bool} {q : List Int} (hw : w.length = N) (hq : q.Nodup) (hr : ∀ v ∈ q, 0 ≤ v ∧ v < N) (hwq : ∀ v : Int, 0 ≤ v → v < N → (wv w v = true ↔ v ∈ q)) (hqs : ∀ v : Int, 0 ≤ v → v < N → (v ∈ q ↔ gv (start S N) v ≠ Free)) :
    Spfa L (fun v => S v = true) N M 0 q [] (start S N) w (List.replicate N 0) q := by
  have ht : ∀ v : Int, 0 ≤ v → v < N → gv (List.replicate N (0 : Int)) v = 0 := by
    intro v h0 h1
    unfold gv
    rw [List.getElem?_replicate]
    split <;> rfl
  have hg : ∀ v : Int, 0 ≤ v → v < N → (v ∈ q ↔ S v = true) := by
    intro v h0 h1
    rw [hqs v h0 h1, start_gv S h0 h1]
    cases S v <;> simp [Free]
  have hM := hL.m0
  refine ⟨by simp, start_length S N, hw, by simp, hq, hr, hwq, fun v h0 h1 => ?_, fun v hv => ?_, fun vs v d hw hl => ?_, fun vs u d hw hl hu v m hlk => ?_, fun u h0 h1 hu hf v m hlk => ?_, fun v h0 h1 hf => ?_, fun v h0 h1 => ?_, fun v hv => ?_, fun v hv => ?_, by omega, fun _ => rfl⟩
  · rw [ht v h0 h1]; omega
  · have := hr v hv
    rw [ht v this.1 this.2]; omega
  · cases hw with
    | nil hs =>
      have := hS v hs
      rw [start_gv S this.1 this.2, if_pos hs]; omega
    | step => simp at hl
  · cases hw with
    | nil hs =>
      have := hS u hs
      exact (hu ((hg u this.1 this.2).2 hs)).elim
    | step => simp at hl
  · rw [start_gv S h0 h1] at hf
    have := mt (hg u h0 h1).2 hu
    rw [if_neg this] at hf
    exact (hf rfl).elim
  · rw [start_gv S h0 h1] at hf ⊢
    split at hf
    · rename_i hs
      rw [if_pos hs]; exact ⟨[], .nil hs⟩
    · exact (hf rfl).elim
  · rw [start_gv S h0 h1]
    split
    · exact .inr (by simp [hM])
    · exact .inl rfl
  · have h1 := hr v hv
    rw [start_gv S h1.1 h1.2, if_pos ((hg v h1.1 h1.2).1 hv)]; simp
  · have h1 := hr v hv
    rw [start_gv S h1.1 h1.2, if_pos ((hg v h1.1 h1.2).1 hv)]; simp [Free]
structure Bad (L : List Lk) (N : Nat) (x : List Int) (w : List Bool) (t q : List Int) : Prop where
  lx : x.length = N
  lw : w.length = N
  lt : t.length = N
  nodup : q.Nodup
  rng : ∀ v ∈ q, 0 ≤ v ∧ v < N
  waits : ∀ v : Int, 0 ≤ v → v < N → (wv w v = true ↔ v ∈ q)
  t0 : ∀ v : Int, 0 ≤ v → v < N → 0 ≤ gv t v ∧ gv t v ≤ (N : Int) + 1
  bd : ∀ v : Int, 0 ≤ v → v < N → -2305843009213693952 ≤ gv x v ∧ gv x v ≤ 0
  rel : ∀ u : Int, 0 ≤ u → u < N → u ∉ q → ∀ v m, (u, v, m) ∈ L → gv x v ≤ gv x u + m
theorem spfa_bad {r : Option ρ} {x : List Int} {w : List Bool} {t q : List Int} (hL : LinksOk L N M) (hp : ¬ ∃ p, Pot L p) (k0 : (Val (.pair .bool (.pair (.slice tI) (.pair (.slice .bool) (.pair (.slice tI) (.slice tI)))))) → Option ρ)
    (hK : ∀ x w t q, k0 (false, x, w, t, q) = r) (h : Bad L N x w t q) :
    loopT (fun (v64 : (Val (.pair (.slice tI) (.pair (.slice .bool) (.pair (.slice tI) (.slice tI)))))) kk69 => m_h_solution_L2 [] (negS L) (N : Int) L v64.1 v64.2.1 v64.2.2.1 v64.2.2.2 (fun u65 u66 u67 u68 => kk69 (u65, u66, u67, u68)) k0) (x, w, t, q) = r := by
  refine loop_inv (fun s : List Int × List Bool × List Int × List Int => Bad L N s.1 s.2.1 s.2.2.1 s.2.2.2) (fun s => left_ N s.2.2.1) ?_ h
  rintro ⟨x, w, t, q⟩ h
  dsimp only at h ⊢
  have hN := hL.nodes
  cases q with
  | nil =>
    exfalso
    exact hp ⟨gv x, fun u v m hl => h.rel u (hL.inr _ hl).1.1 (hL.inr _ hl).1.2 (by simp) v m hl⟩
  | cons n rest =>
    have hnr := h.rng n (by simp)
    have hb := h.bd n hnr.1 hnr.2
    have ht := h.t0 n hnr.1 hnr.2
    have hrl : rest.length ≤ 1000000 := by
      have := pigeon N (n :: rest) h.nodup h.rng
      simp only [List.length_cons] at this
      omega
    have hout := fun (kn : List Int → List Bool → List Int → List Int → Option ρ) => outer_ok (ρ := ρ) hL (least := negS L) hnr h.lx h.lw h.lt hrl ⟨hb.1, by omega⟩ ⟨ht.1, by omega⟩ kn k0
    by_cases hlt : (N : Int) + 1 < gv t n + 1
    · exact .inl fun kn => by rw [hout, if_pos hlt]; exact hK _ _ _ _
    · have hw' : (w.set n.toNat false).length = N := by rw [List.length_set]; exact h.lw
      cases hr : linksF n (negS L) L x (w.set n.toNat false) rest with
      | mk b r' =>
      obtain ⟨x', w', q'⟩ := r'
      cases b with
      | false => exact .inl fun kn => by rw [hout, if_neg hlt, hr]; exact hK _ _ _ _
      | true =>
        have hnd := h.nodup
        rw [List.nodup_cons] at hnd
        have htl : n.toNat < t.length := by have := h.lt; omega
        have ha := linksF_after hnr hL.inr hL.noloop h.lx hw' hnd.2 (fun v h0 h1 => by
          rw [wv_set hnr.1 h0 (by have := h.lw; omega)]
          by_cases hv : v = n
          · subst hv; simp [hnd.1]
          · rw [if_neg hv, h.waits v h0 h1]
            simp [hv]) hr
        obtain ⟨l, hl, hlv⟩ := ha.new
        refine .inr ⟨(x', w', t.set n.toNat (gv t n + 1), q'), ⟨ha.lx, ha.lw, by rw [List.length_set]; exact h.lt, ha.nodup, fun v hv => ?_, ha.waits, fun v h0 h1 => ?_, fun v h0 h1 => ?_, fun u h0 h1 hu v m hlk => ?_⟩, left_set' htl (by omega), fun kn => by rw [hout, if_neg hlt, hr]⟩
        · dsimp only at hv
          rw [hl] at hv
          rcases List.mem_append.1 hv with hv | hv
          · exact h.rng v (by simp [hv])
          · exact (hlv v hv).1
        · try dsimp only
          rw [gv_set hnr.1 h0 htl]
          have := h.t0 v h0 h1
          split <;> omega
        · try dsimp only
          have h2 := h.bd v h0 h1
          rcases ha.chg v h0 h1 with g | ⟨_, g2, m, g3, g4, g5⟩
          · rw [g]; exact h2
          · have h3 := negS_ge (L := L) (fun l hl => (hL.most l hl).1) hL.m0
            have h4 : (L.length : Int) * M ≤ 400 * 4503599627370496 := Int.mul_le_mul (by have := hL.len; omega) hL.m1 hL.m0 (by omega)
            omega
        · dsimp only at hu ⊢
          have hvr := (hL.inr _ hlk).2
          have heq : gv x' u = gv x u := by
            rcases ha.chg u h0 h1 with g | ⟨g, _⟩
            · exact g
            · exact (hu g).elim
          by_cases hun : u = n
          · subst hun
            have h1 := ha.link v m hlk
            omega
          · have hur : u ∉ n :: rest := by
              intro hc
              rcases List.mem_cons.1 hc with e | hc
              · exact hun e
              · exact hu (by rw [hl]; exact List.mem_append_left _ hc)
            have h2 := h.rel u h0 h1 hur v m hlk
            have := ha.le v hvr.1 hvr.2
            omega
end
def allS (N : Nat) (v : Int) : Bool := decide (0 ≤ v) && decide (v < (N : Int))
def oneS (s : Int) (v : Int) : Bool := v == s
theorem start_all (N : Nat) : start (allS N) N = List.replicate N 0 := by
  refine gv_ext (by simp [start_length]) fun v h0 h1 => ?_
  rw [start_length] at h1
  rw [start_gv _ h0 h1]
  have : allS N v = true := by simp [allS, h0, h1]
  rw [if_pos this]
  unfold gv
  rw [List.getElem?_replicate]
  split <;> rfl
def solveP (L : List Lk) (N : Nat) : List Int := passes L N (start (allS N) N)
def openP (L : List Lk) (N : Nat) : Bool := decide (passP L (solveP L N) = solveP L N)
def boundsP (L : List Lk) (N : Nat) (s : Int) : List Int := passes L N (start (oneS s) N)
section
variable {L : List Lk} {N : Nat} {M : Int}
theorem nm_lt (hL : LinksOk L N M) (hN : N ≤ 200) : N * M < Free := by
  have : (N : Int) * M ≤ 200 * 4503599627370496 := Int.mul_le_mul (by omega) hL.m1 hL.m0 (by omega)
  unfold Free
  omega
theorem solve_dist {p : Int → Int} (hL : LinksOk L N M) (hN : N ≤ 200) (hp : Pot L p) : Dist L (fun v => allS N v = true) N (gv (solveP L N)) :=
  passes_dist hp hL.inr (fun v h => by simpa [allS] using h) (fun l hl => (hL.most l hl).2) hL.m0 (nm_lt hL hN) N (by omega)
theorem bounds_dist {p : Int → Int} (hL : LinksOk L N M) (hN : N ≤ 200) (hp : Pot L p) {s : Int} (hs : 0 ≤ s ∧ s < N) : Dist L (fun v => oneS s v = true) N (gv (boundsP L N s)) :=
  passes_dist hp hL.inr (fun v h => by simp [oneS] at h; subst h; exact hs) (fun l hl => (hL.most l hl).2) hL.m0 (nm_lt hL hN) N (by omega)
theorem passP_fix : ∀ {L : List Lk} {x : List Int}, (∀ u v m, (u, v, m) ∈ L → gv x u < Free → gv x v ≤ gv x u + m) → passP L x = x
  | [], x, _ => rfl
  | l :: t, x, h => by
    have h1 : relaxL x l = x := by
      unfold relaxL
      split
      · rename_i hc
        have := h l.1 l.2.1 l.2.2 (by simp) hc.1
        omega
      · rfl
    show passP t (relaxL x l) = x
    rw [h1]
    exact passP_fix fun u v m hm => h u v m (by simp [hm])
theorem openP_iff (hL : LinksOk L N M) (hN : N ≤ 200) : openP L N = true ↔ ∃ p, Pot L p := by
  unfold openP
  rw [decide_eq_true_eq]
  have hle : ∀ v : Int, 0 ≤ v → v < N → gv (solveP L N) v ≤ 0 := by
    intro v h0 h1
    have := passes_le hL.inr N (start_length (allS N) N) v h0
    rw [start_gv _ h0 h1, if_pos (by simp [allS, h0, h1])] at this
    exact this
  constructor
  · intro h
    refine ⟨gv (solveP L N), fun u v m hl => ?_⟩
    have hr := (hL.inr _ hl).1
    have := passP_link hL.inr (x := solveP L N) (by unfold solveP; rw [passes_length, start_length]) u v m hl (by have := hle u hr.1 hr.2; unfold Free; omega)
    rwa [h] at this
  · rintro ⟨p, hp⟩
    have hd := solve_dist hL hN hp
    exact passP_fix fun u v m hl hf => hd.pot hL.inr hl (by omega)
end
end Go.Proofs.ZzM
end

noncomputable section
namespace Go.Proofs.ZzM
open Go Go.Am
section
variable {ρ : Type} {L : List Lk} {N : Nat} {M : Int}
theorem iff_make (hN : N ≤ 1000) (x : Option ρ) : iff_ ((ile (0 : Int) (N : Int)) && (okLen (Int.toNat (N : Int)))) x = x := by
  rw [Int.toNat_natCast, okLen_of (by omega)]
  have : ((ile (0 : Int) (N : Int)) && true) = true := by simp [ile]
  rw [this, Am.iff_true]
theorem relaxAll_ok (hL : LinksOk L N M) (h1 : 1 ≤ N) (hN : N ≤ 200) (k0 : (Val (.pair .bool (.pair (.slice tI) (.pair (.slice .bool) (.pair (.slice tI) (.slice tI)))))) → Option ρ) {rT rF : Option ρ}
    (hT : openP L N = true → ∀ w t q, k0 (true, solveP L N, w, t, q) = rT) (hF : ∀ x w t q, k0 (false, x, w, t, q) = rF) :
    (loopT (fun (v70 : (Val (.pair tI (.pair (.slice .bool) (.slice tI))))) kk74 => m_h_solution_L1 (N : Int) (List.replicate N (0 : Int)) v70.1 v70.2.1 v70.2.2 (fun u71 u72 u73 => kk74 (u71, u72, u73)) (fun z9 => loopT (fun (v64 : (Val (.pair (.slice tI) (.pair (.slice .bool) (.pair (.slice tI) (.slice tI)))))) kk69 => m_h_solution_L2 [] (negS L) (N : Int) L v64.1 v64.2.1 v64.2.2.1 v64.2.2.2 (fun u65 u66 u67 u68 => kk69 (u65, u66, u67, u68)) k0) ((List.replicate N (0 : Int)), z9.1, (List.replicate N (0 : Int)), z9.2))) ((0 : Int), (List.replicate N false), ([] : List Int))) = if openP L N then rT else rF := by
  refine srcs_ok (by simp) (by omega) _ fun w q hw hq hr hwq hqs => ?_
  try dsimp only
  have hS : ∀ v, allS N v = true → 0 ≤ v ∧ v < N := fun v h => by simpa [allS] using h
  by_cases ho : openP L N = true
  · rw [if_pos ho]
    obtain ⟨p, hp⟩ := (openP_iff hL hN).1 ho
    have hs := spfa_start hL h1 hS hw hq hr hwq (fun v a b => by rw [start_all]; exact hqs v a b)
    rw [start_all] at hs
    refine spfa_cons hL (nm_lt hL hN) hp hS k0 (fun x w t q hx hd => ?_) hs
    have : x = solveP L N := by
      refine gv_ext (by rw [hx]; unfold solveP; rw [passes_length, start_length]) fun v a b => ?_
      exact hd.uniq (solve_dist hL hN hp) a (by omega)
    rw [this]; exact hT ho w t q
  · rw [if_neg ho]
    refine spfa_bad hL (fun hp => ho ((openP_iff hL hN).2 hp)) k0 hF ?_
    have hg : ∀ v, gv (List.replicate N (0 : Int)) v = 0 := by
      intro v
      unfold gv
      rw [List.getElem?_replicate]
      split <;> rfl
    refine ⟨by simp, hw, by simp, hq, hr, hwq, fun v a b => ?_, fun v a b => ?_, fun u a b hu v m hl => ?_⟩
    · rw [hg]; omega
    · rw [hg]; omega
    · exact (hu ((hqs u a b).2 (by rw [hg]; unfold Free; omega))).elim
end
theorem shift_ok {ρ : Type} {x : List Int} (f : Int) (hx : x.length ≤ 1000) (hf : -2305843009213693952 ≤ f ∧ f ≤ 2305843009213693952) (hb : ∀ a ∈ x, -2305843009213693952 ≤ a ∧ a ≤ 2305843009213693952) (k0 : List Int → Option ρ) :
    loopT (fun (v60 : (Val (.pair tI (.slice tI)))) kk63 => m_h_solution_L4 f (ilen x) v60.1 v60.2 (fun u61 u62 => kk63 (u61, u62)) k0) ((0 : Int), x) = k0 (x.map fun a => a - f) := by
  refine loop_acc x (fun i => (x.take i).map (fun a => a - f) ++ x.drop i) _ (by simp) (fun i a hi ha kn => ?_) (fun kn => ?_)
  · try dsimp only
    unfold m_h_solution_L4
    have hlen : ((x.take i).map (fun a => a - f) ++ x.drop i).length = x.length := by simp; omega
    have hget : ((x.take i).map (fun a => a - f) ++ x.drop i)[i]? = some a := by
      rw [List.getElem?_append_right (by simp; omega)]
      simp only [List.length_map, List.length_take, List.getElem?_drop]
      rw [← ha]; congr 1; omega
    have hi' : i < ((x.take i).map (fun a => a - f) ++ x.drop i).length := by omega
    have ha' := hb a (List.mem_of_getElem? ha)
    rw [ifb_lt' hi, iff_idx hi', nget_toNat hget, ck_ok (by omega) (by omega), iff_idx hi', nget_toNat hget, ck_succ hi (by omega), Int.toNat_natCast, take_succ ha]
    congr 2
    rw [List.drop_eq_getElem_cons hi, List.map_append, List.append_assoc, List.set_append_right _ _ (by simp; omega)]
    have : i - (List.map (fun a => a - f) (List.take i x)).length = 0 := by simp; omega
    rw [this]
    have h1 : x[i] = a := by rw [List.getElem?_eq_getElem hi] at ha; simpa using ha
    simp [h1]
  · try dsimp only
    unfold m_h_solution_L4
    rw [ifb_ge]
    simp
section
variable {L : List Lk} {N : Nat} {M : Int}
theorem solve_bd (hL : LinksOk L N M) (hN : N ≤ 200) (ho : openP L N = true) : ∀ a ∈ solveP L N, -2305843009213693952 ≤ a ∧ a ≤ 0 := by
  obtain ⟨p, hp⟩ := (openP_iff hL hN).1 ho
  have hd := solve_dist hL hN hp
  intro a ha
  obtain ⟨i, hi, rfl⟩ := List.mem_iff_getElem.1 ha
  have hlen : (solveP L N).length = N := by unfold solveP; rw [passes_length, start_length]
  have h0 : gv (solveP L N) i = (solveP L N)[i] := by unfold gv; simp [hi]
  have hle := passes_le hL.inr N (start_length (allS N) N) (i : Int) (by omega)
  rw [start_gv _ (by omega) (by omega), if_pos (by simp [allS]; omega)] at hle
  have hle' : gv (solveP L N) i ≤ 0 := hle
  obtain ⟨vs, hw⟩ := hd.att i (by omega) (by omega) (by unfold Free; omega)
  have h1 := hw.low' hp
  have h3 := negS_ge (L := L) (fun l hl => (hL.most l hl).1) hL.m0
  have h4 : (L.length : Int) * M ≤ 400 * 4503599627370496 := Int.mul_le_mul (by have := hL.len; omega) hL.m1 hL.m0 (by omega)
  omega
def solP (L : List Lk) (N : Nat) : List Int := (solveP L N).map fun a => a - gv (solveP L N) 0
theorem solution_ok (hL : LinksOk L N M) (h1 : 1 ≤ N) (hN : N ≤ 200) : f_h_solution ((N : Int), L) [] = some (if openP L N then (solP L N, true) else ([], false)) := by
  unfold f_h_solution m_h_solution
  try dsimp only
  rw [iff_make (by omega), iff_make (by omega), iff_make (by omega), Int.toNat_natCast]
  refine Eq.trans (least_ok hL _) ?_
  refine Eq.trans (relaxAll_ok hL h1 hN _ (rT := some (solP L N, true)) (rF := some ([], false)) (fun ho w t q => ?_) (fun x w t q => ?_)) ?_
  · try dsimp only
    have hlen : (solveP L N).length = N := by unfold solveP; rw [passes_length, start_length]
    have hb := solve_bd hL hN ho
    have h0 : ilt (0 : Int) (olen (solveP L N)) = true := decide_eq_true (show (0 : Int) < ((solveP L N).length : Int) by omega)
    have hg : (solveP L N)[0]? = some (gv (solveP L N) 0) := gv_get (v := 0) (show 0 < _ by omega)
    have hm := hb _ (List.mem_of_getElem? hg)
    rw [show (!true) = false from rfl, ifb_false, iff_of h0, nget_nat hg]
    exact shift_ok _ (by omega) ⟨hm.1, by omega⟩ (fun a ha => ⟨(hb a ha).1, by have := (hb a ha).2; omega⟩) _
  · rfl
  · cases openP L N <;> rfl
structure SysOk (L : List Lk) (N : Nat) : Prop where
  n1 : 1 ≤ N
  n60 : N ≤ 60
  len : L.length ≤ 300
  inr : InR L N
  noloop : ∀ l ∈ L, l.1 ≠ l.2.1
  most : ∀ l ∈ L, -4503599627370496 ≤ l.2.2 ∧ l.2.2 ≤ 4503599627370496
theorem SysOk.links (h : SysOk L N) : LinksOk L N 4503599627370496 :=
  ⟨h.inr, h.noloop, h.most, by have := h.len; omega, by have := h.n60; omega, by omega, by omega⟩
theorem SysOk.sub {L' : List Lk} (h : SysOk L N) (hs : ∀ l ∈ L', l ∈ L) (hl : L'.length ≤ L.length) : SysOk L' N :=
  ⟨h.n1, h.n60, by have := h.len; omega, fun l hm => h.inr l (hs l hm), fun l hm => h.noloop l (hs l hm), fun l hm => h.most l (hs l hm)⟩
theorem node_ok (n : Int) (L : List Lk) (v : Int) : f_h_node (n, L) v = some (decide (0 ≤ v) && decide (v < n)) := by
  unfold f_h_node m_h_node ige
  by_cases h : 0 ≤ v
  · have : decide (v ≥ 0) = true := by simpa using h
    rw [ifb_t this]; simp [h]
  · have : decide (v ≥ 0) = false := by simpa using h
    rw [ifb_f this]; simp [h]
theorem ChainCheck_ok (h : SysOk L N) : f_h_Check ((N : Int), L) = some (0, -1) := by
  have h1 := h.n1
  have h2 := h.n60
  have h3 := h.len
  unfold f_h_Check m_h_Check
  try dsimp only
  rw [ifb_f (by simp [ilt]; omega), ifb_f (by simp [igt]; omega), ifb_f (by rw [ilen_eq]; simp [igt]; omega)]
  refine Eq.trans (loop_find L (fun _ => false) (fun i => some (1, i)) (some (0, -1)) (fun i l hi hl kn => ?_) (fun kn => ?_)) ?_
  · try dsimp only
    unfold m_h_Check_L0
    have hm := List.mem_of_getElem? hl
    have a := h.inr l hm
    have b := h.noloop l hm
    have c := h.most l hm
    have e1 : (decide (0 ≤ l.1) && decide (l.1 < (N : Int))) = true := by simp [a.1.1, a.1.2]
    have e2 : (decide (0 ≤ l.2.1) && decide (l.2.1 < (N : Int))) = true := by simp [a.2.1, a.2.2]
    rw [ifb_lt' hi, iget_nat hl, node_ok, bindF_some, e1, node_ok, bindF_some, e2]
    simp only [Bool.not_true, ifb_false, Bool.false_eq_true, if_false]
    rw [ifb_f (by simp [ieq, b]), ifb_f (by simp [ilt]; omega), ifb_f (by simp [igt]; omega), ck_succ hi (by omega)]
  · try dsimp only
    unfold m_h_Check_L0
    rw [ifb_ge]
  · rw [List.findIdx?_eq_none_iff.2 (by simp)]
theorem iget_gv {ρ : Type} {x : List Int} {v : Int} (h0 : 0 ≤ v) (h : v.toNat < x.length) (f : Int → Option ρ) : iget x v f = f (gv x v) := by
  obtain ⟨i, rfl⟩ := Int.eq_ofNat_of_zero_le h0
  exact iget_nat (gv_get h) f
def fitsL (L : List Lk) (x : List Int) : Bool := L.all fun l => decide (gv x l.2.1 ≤ gv x l.1 + l.2.2)
theorem ChainFits_ok (h : SysOk L N) {x : List Int} (hx : x.length = N) (hb : ∀ a ∈ x, -Free ≤ a ∧ a ≤ Free) : f_h_Fits ((N : Int), L) x = some (fitsL L x && gv x 0 == 0, 0) := by
  have h1 := h.n1
  have h2 := h.n60
  have h3 := h.len
  unfold f_h_Fits m_h_Fits
  rw [ChainCheck_ok h, bindF_some]
  try dsimp only
  rw [ifb_f (by rfl), ifb_f (by rw [ilen_eq, hx]; simp [ine])]
  have second : loopT (fun (v20 : Int) kk22 => m_h_Fits_L1 x L (ilen L) v20 (fun u21 => kk22 u21) (fun z17 => some (z17.1, z17.2)) (fun _ => iget x (0 : Int) fun e19 => some (ieq e19 (0 : Int), (0 : Int)))) (0 : Int) = some (fitsL L x && gv x 0 == 0, 0) := by
    refine Eq.trans (loop_any L (fun l => !decide (gv x l.2.1 ≤ gv x l.1 + l.2.2)) (fun _ => some (false, 0)) (some (false, 0)) (some (gv x 0 == 0, 0)) (fun _ => rfl) (fun i l hi hl kn => ?_) (fun kn => ?_)) ?_
    · try dsimp only
      unfold m_h_Fits_L1
      have hm := List.mem_of_getElem? hl
      have a := h.inr l hm
      have c := h.most l hm
      have g1 : l.1.toNat < x.length := by omega
      have hg := hb _ (List.mem_of_getElem? (gv_get g1))
      unfold Free at hg
      rw [ifb_lt' hi, iget_nat hl, iget_gv a.2.1 (by omega), iget_gv a.1.1 g1, ck_ok (by omega) (by omega), ck_succ hi (by omega), ifb_eq]
      by_cases hle : gv x l.2.1 ≤ gv x l.1 + l.2.2
      · rw [if_neg (by simp [igt]; omega), if_neg (by simp [hle])]
      · rw [if_pos (by simp [igt]; omega), if_pos (by simp [hle])]
    · try dsimp only
      unfold m_h_Fits_L1
      rw [ifb_ge, iget_gv (by omega) (by rw [Int.toNat_zero]; omega)]
    · unfold fitsL
      rw [show (L.any fun l => !decide (gv x l.2.1 ≤ gv x l.1 + l.2.2)) = !(L.all fun l => decide (gv x l.2.1 ≤ gv x l.1 + l.2.2)) from by rw [List.all_eq_not_any_not]; simp]
      cases (L.all fun l => decide (gv x l.2.1 ≤ gv x l.1 + l.2.2)) <;> rfl
  refine Eq.trans (loop_any x (fun _ => false) (fun z4 => ifb (ige z4 (0 : Int)) (some (false, (1 : Int))) (some (fitsL L x && gv x 0 == 0, 0))) (some (false, 1)) (some (fitsL L x && gv x 0 == 0, 0)) (fun j => ?_) (fun i a hi ha kn => ?_) (fun kn => ?_)) ?_
  · rw [ifb_t (by simp [ige])]
  · try dsimp only
    unfold m_h_Fits_L0
    have hg := hb a (List.mem_of_getElem? ha)
    unfold Free at hg
    rw [ifb_lt' hi, iget_nat ha, ifb_f (by simp [ilt]; omega), ifb_f (by simp [igt]; omega), ck_succ hi (by omega)]
    simp
  · try dsimp only
    unfold m_h_Fits_L0
    rw [ifb_ge]
    exact second
  · simp
end
end Go.Proofs.ZzM
end

noncomputable section
namespace Go.Proofs.ZzM
open Go Go.Am
theorem bounds_L1 {ρ : Type} : @m_h_bounds_L1 ρ = @m_h_solution_L0 ρ := rfl
theorem bounds_L2 {ρ : Type} : @m_h_bounds_L2 ρ = @m_h_solution_L1 ρ := rfl
theorem bounds_L4 {ρ : Type} : @m_h_bounds_L4 ρ = @m_h_solution_L3 ρ := rfl
theorem bounds_L3 {ρ : Type} : @m_h_bounds_L3 ρ = @m_h_solution_L2 ρ := rfl
theorem iff_make' {ρ : Type} {N : Nat} (hN : N ≤ 1000) (x : Option ρ) : iff_ ((ile (0 : Int) (N : Int)) && (okLen N)) x = x := by
  have := iff_make hN x
  rwa [Int.toNat_natCast] at this
section
variable {L : List Lk} {N : Nat} {M : Int}
theorem start_one {s : Int} (hs : 0 ≤ s ∧ s < N) : (List.replicate N Free).set s.toNat 0 = start (oneS s) N := by
  refine gv_ext (by simp [start_length]) fun v h0 h1 => ?_
  have hv : v < N := by simpa using h1
  rw [start_gv _ h0 hv, gv_set hs.1 h0 (by simp; omega)]
  unfold oneS
  by_cases h : v = s
  · simp [h]
  · simp only [h, if_false, beq_iff_eq]
    unfold gv
    rw [List.getElem?_replicate]
    have : v.toNat < N := by omega
    simp [this]
theorem bounds_ok (hL : LinksOk L N M) (h1 : 1 ≤ N) (hN : N ≤ 200) (ho : openP L N = true) {s : Int} (hs : 0 ≤ s ∧ s < N) : f_h_bounds ((N : Int), L) [] s = some (boundsP L N s) := by
  obtain ⟨p, hp⟩ := (openP_iff hL hN).1 ho
  unfold f_h_bounds m_h_bounds
  rw [bounds_L1, bounds_L2, bounds_L3]
  dsimp only
  rw [iff_make (by omega), Int.toNat_natCast]
  refine loop_acc (List.replicate N (0 : Int)) (fun i => List.replicate i Free ++ List.replicate (N - i) 0) _ (by simp) (fun i a hi ha kn => ?_) (fun kn => ?_)
  · dsimp only
    unfold m_h_bounds_L0
    have hiN : i < N := by simpa using hi
    have hl : i < (List.replicate i Free ++ List.replicate (N - i) (0 : Int)).length := by simp; omega
    rw [ifb_lt' hi, iff_idx hl, nget_toNat (List.getElem?_eq_getElem hl), ck_succ hiN (by omega), Int.toNat_natCast]
    congr 2
    rw [List.set_append_right _ _ (by simp)]
    have : N - i = (N - (i + 1)) + 1 := by omega
    rw [this, List.length_replicate, Nat.sub_self, List.replicate_succ, List.set_cons_zero, List.replicate_succ']
    simp
  · try dsimp only
    unfold m_h_bounds_L0
    rw [ifb_ge]
    dsimp only
    have e0 : List.replicate (List.replicate N (0 : Int)).length Free ++ List.replicate (N - (List.replicate N (0 : Int)).length) 0 = List.replicate N Free := by simp
    rw [e0]
    have hlen : s.toNat < (List.replicate N Free).length := by simp; omega
    rw [show olen (List.replicate N Free) = ((N : Nat) : Int) by simp [olen], iff_rng hs.1 hs.2, nget_gv hlen, iff_make' (by omega), iff_make' (by omega), start_one hs]
    refine Eq.trans (least_ok hL _) ?_
    have hS : ∀ v, oneS s v = true → 0 ≤ v ∧ v < N := fun v h => by simp [oneS] at h; subst h; exact hs
    refine srcs_ok (start_length _ _) (by omega) _ fun w q hw hq hr hwq hqs => ?_
    have hs0 := spfa_start hL h1 hS hw hq hr hwq hqs
    refine spfa_cons hL (nm_lt hL hN) hp hS _ (fun x w t q hx hd => ?_) hs0
    have : x = boundsP L N s := by
      refine gv_ext (by rw [hx]; unfold boundsP; rw [passes_length, start_length]) fun v a b => ?_
      exact hd.uniq (bounds_dist hL hN hp hs) a (by omega)
    dsimp only
    rw [this]
def BoundP (L : List Lk) (N : Nat) (s t : Int) : Int × Int :=
  if !openP L N then (0, 9) else if gv (boundsP L N s) t = Free then (0, 5) else (gv (boundsP L N s) t, 0)
theorem asked_ok (h : SysOk L N) {ns : List Int} (hn : ∀ n ∈ ns, 0 ≤ n ∧ n < N) (hl : ns.length ≤ 1000) : f_h_asked ((N : Int), L) ns = some (if openP L N then 0 else 9) := by
  have h2 := h.n60
  unfold f_h_asked m_h_asked
  rw [ChainCheck_ok h, bindF_some]
  dsimp only
  rw [ifb_f (by rfl)]
  refine Eq.trans (loop_find ns (fun _ => false) (fun _ => some 1) (some (if openP L N then 0 else 9)) (fun i n hi hm kn => ?_) (fun kn => ?_)) ?_
  · try dsimp only
    unfold m_h_asked_L0
    have a := hn n (List.mem_of_getElem? hm)
    have e : (decide (0 ≤ n) && decide (n < (N : Int))) = true := by simp [a.1, a.2]
    rw [ifb_lt' hi, iget_nat hm, node_ok, bindF_some, e, ck_succ hi (by omega)]
    simp
  · try dsimp only
    unfold m_h_asked_L0
    rw [ifb_ge, solution_ok h.links h.n1 (by omega), bindF_some]
    cases openP L N <;> rfl
  · rw [List.findIdx?_eq_none_iff.2 (by simp)]
theorem Bound_ok (h : SysOk L N) {s t : Int} (hs : 0 ≤ s ∧ s < N) (ht : 0 ≤ t ∧ t < N) : f_h_Bound ((N : Int), L) s t = some (BoundP L N s t) := by
  have h2 := h.n60
  unfold f_h_Bound m_h_Bound BoundP
  rw [asked_ok h (fun n hn => by simp at hn; rcases hn with rfl | rfl <;> assumption) (by simp), bindF_some]
  by_cases ho : openP L N = true
  · rw [if_pos ho, ifb_f (by rfl), bounds_ok h.links h.n1 (by omega) ho hs, bindF_some, iget_gv ht.1 (by unfold boundsP; rw [passes_length, start_length]; omega), ifb_eq, if_neg (show ¬ (!openP L N) = true by simp [ho])]
    by_cases hf : gv (boundsP L N s) t = Free
    · rw [if_pos (by simpa [ieq] using hf), if_pos hf]
    · rw [if_neg (by simpa [ieq] using hf), if_neg hf]
  · rw [if_neg ho, ifb_t (by rfl), if_pos (show (!openP L N) = true by simpa using ho)]
end
end Go.Proofs.ZzM
end

noncomputable section
namespace Go.Proofs.ZzM
open Go Go.Am
section
variable {b : Book}
theorem days_lt (b : Book) (g : Gauge) : (daysP b g).Pairwise (· < ·) := setI_lt _
theorem days_head (h : Good b) {g : Gauge} (hg : g ∈ b.2.1) : ∃ t, daysP b g = g.2.1 :: t := by
  have h1 := days_lt b g
  have h2 := daysP_ne (b := b) g
  have h3 : ∀ d ∈ daysP b g, g.2.1 ≤ d := fun d hd => (h.day hg hd).1
  cases hd : daysP b g with
  | nil => rw [hd] at h2; cases h2
  | cons a t =>
    rw [hd] at h1 h2 h3
    rw [List.pairwise_cons] at h1
    rcases List.mem_cons.1 h2 with e | e
    · exact ⟨t, by rw [e]⟩
    · have := h1.1 _ e
      have := h3 a (by simp)
      omega
def off (b : Book) (i : Nat) : Nat := ((b.2.1.take i).flatMap fun g => (daysP b g).map fun d => ((g.1, d) : Int × Int)).length
theorem nodes_split {i : Nat} {g : Gauge} (hg : b.2.1[i]? = some g) : nodesP b = ((b.2.1.take i).flatMap fun g => (daysP b g).map fun d => ((g.1, d) : Int × Int)) ++ (((daysP b g).map fun d => ((g.1, d) : Int × Int)) ++ ((b.2.1.drop (i + 1)).flatMap fun g => (daysP b g).map fun d => ((g.1, d) : Int × Int))) := by
  obtain ⟨hi, rfl⟩ := List.getElem?_eq_some_iff.1 hg
  have h1 : b.2.1 = b.2.1.take i ++ (b.2.1[i] :: b.2.1.drop (i + 1)) := by
    rw [← List.drop_eq_getElem_cons hi, List.take_append_drop]
  unfold nodesP
  conv => lhs; rw [h1]
  rw [List.flatMap_append, List.flatMap_cons]
theorem node_at (h : Good b) {i : Nat} {g : Gauge} (hg : b.2.1[i]? = some g) {k : Nat} {d : Int} (hk : (daysP b g)[k]? = some d) : nodeIdx (nodesP b) g.1 d = some (off b i + k) := by
  obtain ⟨hi, hgi⟩ := List.getElem?_eq_some_iff.1 hg
  obtain ⟨hkl, hkd⟩ := List.getElem?_eq_some_iff.1 hk
  unfold nodeIdx
  rw [nodes_split hg, List.findIdx?_append, List.findIdx?_append]
  have h1 : List.findIdx? (fun n : Int × Int => decide (g.1 = n.1) && decide (d = n.2)) ((b.2.1.take i).flatMap fun g => (daysP b g).map fun d => ((g.1, d) : Int × Int)) = none := by
    rw [List.findIdx?_eq_none_iff]
    intro x hx
    obtain ⟨g', hg', hx⟩ := List.mem_flatMap.1 hx
    obtain ⟨d', _, rfl⟩ := List.mem_map.1 hx
    obtain ⟨j, hj, rfl⟩ := List.mem_iff_getElem.1 hg'
    rw [List.length_take] at hj
    rw [List.getElem_take]
    have := (List.pairwise_iff_getElem.1 h.ids) j i (by omega) hi (by omega)
    rw [hgi] at this
    simp only [Bool.and_eq_false_iff, decide_eq_false_iff_not]
    exact .inl (by omega)
  have h2 : List.findIdx? (fun n : Int × Int => decide (g.1 = n.1) && decide (d = n.2)) ((daysP b g).map fun d => ((g.1, d) : Int × Int)) = some k := by
    rw [List.findIdx?_eq_some_iff_getElem]
    refine ⟨by simpa using hkl, by simp [hkd], fun j hj => ?_⟩
    have := (List.pairwise_iff_getElem.1 (days_lt b g)) j k (by omega) hkl hj
    rw [hkd] at this
    simp only [List.getElem_map, Bool.and_eq_true, decide_eq_true_eq, not_and]
    intro _
    omega
  rw [h1, h2]
  simp only [Option.map_some, Option.some_or, Option.none_or]
  unfold off
  congr 1
  omega
theorem node_get {i : Nat} {g : Gauge} (hg : b.2.1[i]? = some g) {k : Nat} {d : Int} (hk : (daysP b g)[k]? = some d) : (nodesP b)[off b i + k]? = some (g.1, d) := by
  obtain ⟨hkl, hkd⟩ := List.getElem?_eq_some_iff.1 hk
  rw [nodes_split hg, List.getElem?_append_right (by unfold off; omega), List.getElem?_append_left (by unfold off; simp; omega)]
  unfold off
  simp [hk]
theorem at_gauge (h : Good b) {i : Nat} {g : Gauge} (hg : b.2.1[i]? = some g) : atP (nodesP b) [g.1] g.2.1 = (off b i : Int) + 1 := by
  obtain ⟨t, ht⟩ := days_head h (List.mem_of_getElem? hg)
  have := node_at h hg (k := 0) (d := g.2.1) (by rw [ht]; rfl)
  unfold atP
  simp only [this]
  rfl
theorem off_len (h : Good b) {i : Nat} {g : Gauge} (hg : b.2.1[i]? = some g) : off b i + (daysP b g).length ≤ (nodesP b).length := by
  rw [nodes_split hg]
  unfold off
  simp only [List.length_append, List.length_map]
  omega
theorem off_succ {i : Nat} {g : Gauge} (hg : b.2.1[i]? = some g) : off b (i + 1) = off b i + (daysP b g).length := by
  unfold off
  rw [take_succ hg, List.flatMap_append]
  simp
theorem node_left (h : Good b) {c : Cmp} (hc : c ∈ b.2.2.2.2.1) {x : Int} (hx : (x ∈ c.2.2.1 ∧ x ∉ c.2.2.2.1) ∨ (x ∈ c.2.2.2.1 ∧ x ∉ c.2.2.1)) : ∃ j, nodeIdx (nodesP b) x c.2.1 = some j := by
  have hm : x ∈ c.2.2.1 ++ c.2.2.2.1 := by rw [List.mem_append]; exact hx.imp (·.1) (·.1)
  obtain ⟨⟨g, hg, _⟩, _⟩ := h.pile hc hm
  obtain ⟨hgm, hgx⟩ := gaugeOf_some hg
  obtain ⟨i, hi, hgi⟩ := List.mem_iff_getElem.1 hgm
  have hd : c.2.1 ∈ daysP b g := daysP_mem.2 (.inr (.inl ⟨c, hc, by
    rw [hgx]
    rcases hx with ⟨h1, h2⟩ | ⟨h1, h2⟩
    · have e1 : c.2.2.1.contains x = true := by simpa using h1
      have e2 : c.2.2.2.1.contains x = false := by simpa using h2
      rw [e1, e2]; simp
    · have e1 : c.2.2.2.1.contains x = true := by simpa using h1
      have e2 : c.2.2.1.contains x = false := by simpa using h2
      rw [e1, e2]; simp, rfl⟩))
  obtain ⟨k, hk, hkd⟩ := List.mem_iff_getElem.1 hd
  have := node_at h (g := g) (i := i) (by rw [List.getElem?_eq_getElem hi, hgi]) (k := k) (d := c.2.1) (by rw [List.getElem?_eq_getElem hk, hkd])
  rw [hgx] at this
  exact ⟨_, this⟩
inductive Left1 (b : Book) (p : List Int) (d : Int) (n : Int) : Prop
  | none : p = [] → n = 0 → Left1 b p d n
  | one (x : Int) (j : Nat) : p = [x] → nodeIdx (nodesP b) x d = some j → n = (j : Int) + 1 → Left1 b p d n
theorem cx_left (h : Good b) {c : Cmp} (hc : c ∈ b.2.2.2.2.1) : Left1 b (leftP c.2.2.1 c.2.2.2.1) c.2.1 (cx b c) := by
  have hl := (h.lefts hc).1
  cases hp : leftP c.2.2.1 c.2.2.2.1 with
  | nil => exact .none rfl (by unfold cx atP; rw [hp])
  | cons x t =>
    rw [hp] at hl
    have : t = [] := by cases t with | nil => rfl | cons => simp at hl
    subst this
    obtain ⟨j, hj⟩ := node_left h hc (x := x) (.inl (leftP_mem.1 (by rw [hp]; simp)))
    exact .one x j rfl hj (by unfold cx atP; rw [hp]; simp only [hj])
theorem cy_left (h : Good b) {c : Cmp} (hc : c ∈ b.2.2.2.2.1) : Left1 b (leftP c.2.2.2.1 c.2.2.1) c.2.1 (cy b c) := by
  have hl := (h.lefts hc).2.1
  cases hp : leftP c.2.2.2.1 c.2.2.1 with
  | nil => exact .none rfl (by unfold cy atP; rw [hp])
  | cons x t =>
    rw [hp] at hl
    have : t = [] := by cases t with | nil => rfl | cons => simp at hl
    subst this
    obtain ⟨j, hj⟩ := node_left h hc (x := x) (.inr (leftP_mem.1 (by rw [hp]; simp)))
    exact .one x j rfl hj (by unfold cy atP; rw [hp]; simp only [hj])
theorem Left1.rng {p : List Int} {d n : Int} (h : Left1 b p d n) : 0 ≤ n ∧ n < ((nodesP b).length + 1 : Nat) := by
  rcases h with ⟨_, h⟩ | ⟨x, j, _, h1, h2⟩
  · omega
  · have := (nodeIdx_lt h1).1
    omega
theorem cx_ne_cy (h : Good b) {c : Cmp} (hc : c ∈ b.2.2.2.2.1) : cx b c ≠ cy b c := by
  have hl := (h.lefts hc).2.2
  rcases cx_left h hc with ⟨h1, h2⟩ | ⟨x, j, h1, h2, h3⟩
  · rcases cy_left h hc with ⟨g1, g2⟩ | ⟨y, k, g1, g2, g3⟩
    · rw [h1, g1] at hl; simp at hl
    · omega
  · rcases cy_left h hc with ⟨g1, g2⟩ | ⟨y, k, g1, g2, g3⟩
    · omega
    · intro e
      have : j = k := by omega
      subst this
      have e1 := (nodeIdx_lt h2).2
      have e2 := (nodeIdx_lt g2).2
      rw [e1] at e2
      simp only [Option.some.injEq, Prod.mk.injEq] at e2
      have m1 : x ∈ leftP c.2.2.1 c.2.2.2.1 := by rw [h1]; simp
      have m2 : y ∈ leftP c.2.2.2.1 c.2.2.1 := by rw [g1]; simp
      rw [e2.1] at m1
      exact (leftP_mem.1 m1).2 (leftP_mem.1 m2).1
theorem links_len (h : Good b) : (linksP b).length = 2 * (nodesP b).length + 2 * b.2.2.2.2.1.length := by
  have h1 : ∀ l : List Gauge, (∀ g ∈ l, g ∈ b.2.1) → (l.flatMap (gaugeLinks b)).length = 2 * (l.flatMap fun g => (daysP b g).map fun d => ((g.1, d) : Int × Int)).length := by
    intro l
    induction l with
    | nil => intro _; rfl
    | cons g t ih =>
      intro hm
      have := ih fun g hg => hm g (by simp [hg])
      have hp := List.length_pos_of_mem (daysP_ne (b := b) g)
      simp only [List.flatMap_cons, List.length_append, List.length_map, this]
      unfold gaugeLinks
      rw [List.length_append, sources_len _ _ (fun _ => rfl)]
      simp only [List.length_cons, List.length_nil]
      omega
  have h2 : ∀ l : List Cmp, (l.flatMap (compareLinks b)).length = 2 * l.length := by
    intro l
    induction l with
    | nil => rfl
    | cons c t ih =>
      simp only [List.flatMap_cons, List.length_append, ih, compareLinks, List.length_cons, List.length_nil]
      omega
  unfold linksP
  rw [List.length_append, h1 _ fun _ h => h, h2]
  rfl
theorem gaugeLinks_mem (h : Good b) {i : Nat} {g : Gauge} (hg : b.2.1[i]? = some g) {l : Lk} : l ∈ gaugeLinks b g ↔
    l = (0, (off b i : Int) + 1, g.2.2.1 + g.2.2.2.1.2) ∨ l = ((off b i : Int) + 1, 0, -(g.2.2.1 + g.2.2.2.1.1)) ∨
    ∃ (k : Nat) (d e : Int), (daysP b g)[k]? = some d ∧ (daysP b g)[k + 1]? = some e ∧ (l = ((off b i : Int) + k + 1, (off b i : Int) + k + 2, 0) ∨ l = ((off b i : Int) + k + 2, (off b i : Int) + k + 1, lossP b g d e)) := by
  unfold gaugeLinks
  rw [at_gauge h hg]
  simp only [List.mem_append, List.mem_cons, List.not_mem_nil, or_false, List.mem_flatMap, List.mem_range]
  constructor
  · rintro ((h1 | h1) | ⟨k, hk, h1⟩)
    · exact .inl h1
    · exact .inr (.inl h1)
    · refine .inr (.inr ⟨k, (daysP b g)[k], (daysP b g)[k + 1], List.getElem?_eq_getElem (by omega), List.getElem?_eq_getElem (by omega), ?_⟩)
      rw [List.getElem?_eq_getElem (show k < (daysP b g).length by omega), List.getElem?_eq_getElem (show k + 1 < (daysP b g).length by omega)] at h1
      simp only [Option.getD_some] at h1
      have e1 : (off b i : Int) + 1 + k = (off b i : Int) + k + 1 := by omega
      have e2 : (off b i : Int) + k + 1 + 1 = (off b i : Int) + k + 2 := by omega
      rw [e1, e2] at h1
      exact h1
  · rintro (h1 | h1 | ⟨k, d, e, hd, he, h1⟩)
    · exact .inl (.inl h1)
    · exact .inl (.inr h1)
    · obtain ⟨h2, rfl⟩ := List.getElem?_eq_some_iff.1 hd
      obtain ⟨h3, rfl⟩ := List.getElem?_eq_some_iff.1 he
      refine .inr ⟨k, by omega, ?_⟩
      rw [hd, he]
      simp only [Option.getD_some]
      have e1 : (off b i : Int) + 1 + k = (off b i : Int) + k + 1 := by omega
      have e2 : (off b i : Int) + k + 1 + 1 = (off b i : Int) + k + 2 := by omega
      rw [e1, e2]
      exact h1
theorem linksP_mem {l : Lk} : l ∈ linksP b ↔ (∃ (i : Nat) (g : Gauge), b.2.1[i]? = some g ∧ l ∈ gaugeLinks b g) ∨ ∃ c ∈ b.2.2.2.2.1, l = (cy b c, cx b c, (saysP b c).2) ∨ l = (cx b c, cy b c, -(saysP b c).1) := by
  unfold linksP
  simp only [List.mem_append, List.mem_flatMap, compareLinks, List.mem_cons, List.not_mem_nil, or_false]
  constructor
  · rintro (⟨g, hg, h⟩ | h)
    · obtain ⟨i, hi, rfl⟩ := List.mem_iff_getElem.1 hg
      exact .inl ⟨i, _, List.getElem?_eq_getElem hi, h⟩
    · exact .inr h
  · rintro (⟨i, g, hg, h⟩ | h)
    · exact .inl ⟨g, List.mem_of_getElem? hg, h⟩
    · exact .inr h
theorem Good.sys (h : Good b) : SysOk (linksP b) ((nodesP b).length + 1) := by
  have hN := h.nodes
  have hL := h.links
  have key : ∀ l ∈ linksP b, ((0 ≤ l.1 ∧ l.1 < ((nodesP b).length + 1 : Nat)) ∧ (0 ≤ l.2.1 ∧ l.2.1 < ((nodesP b).length + 1 : Nat))) ∧ l.1 ≠ l.2.1 ∧ (-4503599627370496 ≤ l.2.2 ∧ l.2.2 ≤ 4503599627370496) := by
    intro l hl
    rcases linksP_mem.1 hl with ⟨i, g, hg, hl⟩ | ⟨c, hc, hl⟩
    · have hgm := List.mem_of_getElem? hg
      have hr := h.gaugeR hgm
      have ho := off_len h hg
      have hp := List.length_pos_of_mem (daysP_ne (b := b) g)
      have r1 := hr.2.2.2.2.2.1
      have r2 := hr.2.2.2.2.2.2.1
      rcases (gaugeLinks_mem h hg).1 hl with rfl | rfl | ⟨k, d, e, hd, he, h1⟩
      · dsimp only; omega
      · dsimp only; omega
      · obtain ⟨h2, _⟩ := List.getElem?_eq_some_iff.1 he
        have d1 := h.day hgm (List.mem_of_getElem? hd)
        have lb := lossP_bound h hgm (t := e) d1.2.1
        rcases h1 with rfl | rfl
        · dsimp only; omega
        · dsimp only; omega
    · have a := (cx_left h hc).rng
      have b' := (cy_left h hc).rng
      have ne := cx_ne_cy h hc
      have sb := saysP_bound h hc
      rcases hl with rfl | rfl
      · dsimp only; omega
      · dsimp only; omega
  exact ⟨by omega, by omega, by rw [links_len h]; omega, fun l hl => (key l hl).1, fun l hl => (key l hl).2.1, fun l hl => (key l hl).2.2⟩
end
def lengthsP (b : Book) (x : List Int) : Bool := decide (x.length = (nodesP b).length) && x.all fun n => inP n (-4503599627370496) 4503599627370496
theorem lengths_ok {m : Maker} {x : List Int} (hn : m.2.1.length ≤ 1000000) : f_c_maker_lengths m x = some (if decide (x.length = m.2.1.length) && x.all fun n => inP n (-4503599627370496) 4503599627370496 then 0 else 1) := by
  unfold f_c_maker_lengths m_c_maker_lengths
  by_cases hl : x.length = m.2.1.length
  · rw [ifb_f (by rw [ilen_eq, ilen_eq, hl]; simp [ine])]
    refine Eq.trans (loop_any x (fun n => !inP n (-4503599627370496) 4503599627370496) (fun z => ifb (ige z 0) (some 1) (some 0)) (some 1) (some 0) (fun j => ?_) (fun i a hi ha kn => ?_) (fun kn => ?_)) ?_
    · rw [ifb_t (by simp [ige])]
    · try dsimp only
      unfold m_c_maker_lengths_L0
      rw [ifb_lt' hi, iget_nat ha, within_ok, bindF_some, ck_succ hi (by omega), ifb_eq]
    · try dsimp only
      unfold m_c_maker_lengths_L0
      rw [ifb_ge]
    · rw [show (x.any fun n => !inP n (-4503599627370496) 4503599627370496) = !(x.all fun n => inP n (-4503599627370496) 4503599627370496) from by rw [List.all_eq_not_any_not]; simp]
      cases (x.all fun n => inP n (-4503599627370496) 4503599627370496) <;> simp [hl]
  · rw [ifb_t (by rw [ilen_eq, ilen_eq]; simp [ine]; omega)]
    simp [hl]
def fitsP (b : Book) (x : List Int) : Bool := fitsL (linksP b) (0 :: x)
def FitsP (b : Book) (x : List Int) : Bool × Int := if checkP b ≠ 0 then (false, checkP b) else if lengthsP b x then (fitsP b x, 0) else (false, 1)
theorem makerFits_ok {b : Book} (h : Good b) {x : List Int} (hx : lengthsP b x = true) (src : List (Int × Int)) : f_c_maker_fits (b, nodesP b, (((nodesP b).length : Int) + 1, linksP b), src) x = some (fitsP b x) := by
  simp only [lengthsP, Bool.and_eq_true, decide_eq_true_eq, List.all_eq_true, inP] at hx
  have hN := h.nodes
  unfold f_c_maker_fits m_c_maker_fits
  rw [iff_of (okLen_of (by simp only [List.length_singleton]; omega))]
  have := ChainFits_ok h.sys (x := [0] ++ x) (by simp; omega) (fun a ha => by
    unfold Free
    rcases List.mem_append.1 ha with ha | ha
    · simp at ha; omega
    · have := hx.2 a ha; omega)
  rw [show (((nodesP b).length : Int) + 1) = (((nodesP b).length + 1 : Nat) : Int) by push_cast; rfl]
  try dsimp only
  rw [this, bindF_some]
  unfold fitsP
  have e : gv ([0] ++ x) 0 = 0 := rfl
  rw [e]
  simp
theorem Fits_ok {b : Book} (hs : SizeOk b) (hr : ∀ g ∈ b.2.1, I64 g.2.2.2.2.1.1) (x : List Int) : f_c_Fits b x = some (FitsP b x) := by
  unfold f_c_Fits m_c_Fits FitsP
  rw [Check_ok hs hr, bindF_some]
  by_cases hc : checkP b = 0
  · have h := (checkP_iff b).1 hc
    have hN := h.nodes
    rw [ifb_f (by simp [ine, hc]), made_ok' h, bindF_some, lengths_ok (by dsimp only; omega), bindF_some, if_neg (show ¬ (checkP b ≠ 0) from fun h => h hc)]
    rw [show (decide (x.length = (b, nodesP b, (((nodesP b).length : Int) + 1, linksP b), sourcesP b).2.1.length) && x.all fun n => inP n (-4503599627370496) 4503599627370496) = lengthsP b x from rfl]
    cases hl : lengthsP b x with
    | false => rfl
    | true =>
      rw [if_pos rfl, ifb_f (by rfl), makerFits_ok h hl, bindF_some, if_pos rfl]
  · rw [ifb_t (by simp [ine, hc]), if_pos hc]
end Go.Proofs.ZzM
end

noncomputable section
namespace Go.Proofs.ZzM
open Go Go.Am
def more (b : Book) (c : Cmp) : Book := (b.1, b.2.1, b.2.2.1, b.2.2.2.1, b.2.2.2.2.1 ++ [c], b.2.2.2.2.2)
def book0 : Book := ((0, 0), [], [], [], [], [])
def WithP (b : Book) (c : Cmp) : Book × Int := if checkP b ≠ 0 then (book0, checkP b) else if checkP (more b c) ≠ 0 then (book0, checkP (more b c)) else (more b c, 0)
theorem more_size {b : Book} (h : Good b) {c : Cmp} (hA : c.2.2.1.length ≤ 1000) (hB : c.2.2.2.1.length ≤ 1000) : SizeOk (more b c) := by
  have hs := h.size
  have := h.nC
  refine ⟨hs.gauges, hs.uses, hs.loans, by simp [more]; omega, hs.looks, fun d hd => ?_⟩
  rcases List.mem_append.1 (show d ∈ b.2.2.2.2.1 ++ [c] from hd) with hd | hd
  · exact hs.piles d hd
  · simp at hd; subst hd; exact ⟨hA, hB⟩
theorem With_ok {b : Book} (hs : SizeOk b) (hr : ∀ g ∈ b.2.1, I64 g.2.2.2.2.1.1) {c : Cmp} (hA : c.2.2.1.length ≤ 1000) (hB : c.2.2.2.1.length ≤ 1000) : f_c_With b c = some (WithP b c) := by
  unfold f_c_With m_c_With WithP
  have h1 := hs.gauges; have h2 := hs.uses; have h3 := hs.loans; have h4 := hs.compares; have h5 := hs.looks
  rw [okLen_of (by omega), Am.iff_true, okLen_of (by omega), Am.iff_true, Check_ok hs hr, bindF_some]
  by_cases hc : checkP b = 0
  · have h := (checkP_iff b).1 hc
    rw [ifb_f (by simp [ine, hc]), okLen_of (by omega), Am.iff_true, okLen_of (by omega), Am.iff_true, okLen_of (by omega), Am.iff_true, okLen_of (by omega), Am.iff_true, okLen_of (by omega), Am.iff_true, if_neg (show ¬ (checkP b ≠ 0) from fun h => h hc)]
    refine loop_acc b.2.2.2.2.1 (fun _ => b.2.2.2.2.1) _ rfl (fun i d hi hd kn => ?_) (fun kn => ?_)
    · dsimp only
      unfold m_c_With_L0
      obtain ⟨p1, p2⟩ := hs.piles d (List.mem_of_getElem? hd)
      have e1 : b.2.2.2.2.1.set i d = b.2.2.2.2.1 := by
        obtain ⟨h, rfl⟩ := List.getElem?_eq_some_iff.1 hd
        exact List.set_getElem_self h
      rw [ifb_lt' hi, iff_idx hi, nget_toNat hd, okLen_of (by omega), Am.iff_true, okLen_of (by omega), Am.iff_true, iff_idx hi, nget_toNat hd, Int.toNat_natCast]
      rw [show (d.1, d.2.1, d.2.2.1, d.2.2.2) = d from rfl, e1, iff_idx hi, nget_nat hd, ck_succ hi (by omega)]
      rw [show (d.1, d.2.1, d.2.2.1, d.2.2.2.1, d.2.2.2.2) = d from rfl, e1]
    · try dsimp only
      unfold m_c_With_L0
      rw [ifb_ge]
      dsimp only
      rw [okLen_of (by simp only [List.length_singleton]; omega), Am.iff_true]
      rw [show f_c_Check (b.1, b.2.1, b.2.2.1, b.2.2.2.1, b.2.2.2.2.1 ++ [c], b.2.2.2.2.2) = f_c_Check (more b c) from rfl, Check_ok (more_size h hA hB) hr, bindF_some]
      by_cases hc2 : checkP (more b c) = 0
      · rw [ifb_f (by simp [ine, hc2]), if_neg (show ¬ (checkP (more b c) ≠ 0) from fun h => h hc2)]
        rfl
      · rw [ifb_t (by simp [ine, hc2]), if_pos hc2]
        rfl
  · rw [ifb_t (by simp [ine, hc]), if_pos hc]
    rfl
def zeroDiff (c : Cmp) : Cmp := (c.1, c.2.1, c.2.2.1, c.2.2.2.1, 0, c.2.2.2.2.2)
def lowP (b : Book) (c : Cmp) : Int := ceilP (growthP b c).1 + (filmsP b c).1 - c.2.2.2.2.2.1
def highP (b : Book) (c : Cmp) : Int := (growthP b c).2.1 / (growthP b c).2.2 + (filmsP b c).2 + c.2.2.2.2.2.1
def shownP (b : Book) (c : Cmp) (s : Int × Int) : (Int × Int) × Int := if highP b c < lowP b c then ((0, 0), 5) else ((s.1 + lowP b c, s.2 + highP b c), 0)
structure CmpOk (b : Book) (c : Cmp) : Prop where
  nums : numsP c = true
  r1 : Rat' (rateP (shelf b) (leftP c.2.2.1 c.2.2.2.1)) 1000 100
  r2 : Rat' (rateP (shelf b) (leftP c.2.2.2.1 c.2.2.1)) 1000 100
theorem Good.cmp {b : Book} (h : Good b) {c : Cmp} (hc : c ∈ b.2.2.2.2.1) : CmpOk b c := ⟨h.nums hc, (h.rates hc).1, (h.rates hc).2⟩
theorem shown_bounds {b : Book} (hf : 0 ≤ b.1.1 ∧ b.1.1 ≤ b.1.2 ∧ b.1.2 ≤ 1000000) {c : Cmp} (h : CmpOk b c) : Rat' (growthP b c).1 2000000000 10000 ∧ Rat' (growthP b c).2 2000000000 10000 ∧ (-3000000000 ≤ ceilP (growthP b c).1 + (filmsP b c).1 ∧ ceilP (growthP b c).1 + (filmsP b c).1 ≤ 3000000000) ∧
    (-3000000000 ≤ (growthP b c).2.1 / (growthP b c).2.2 + (filmsP b c).2 ∧ (growthP b c).2.1 / (growthP b c).2.2 + (filmsP b c).2 ≤ 3000000000) ∧ (0 ≤ c.2.2.2.2.2.1 ∧ c.2.2.2.2.2.1 ≤ 1073741824) := by
  have hn := (numsP_iff c).1 h.nums
  have ha := pileP_len hn.2.2.2.2.2.1
  have hb := pileP_len hn.2.2.2.2.2.2
  obtain ⟨g1, g2⟩ := over_rat (sub_rat h.r1 h.r2) hn.2.2.2.2.1
  have fb := films_bound (b := b) (c := c) (by omega) (by omega) (by omega) (by omega) (by omega) (by omega)
  have q1 : Rat' (growthP b c).1 2000000000 10000 := g1
  have q2 : Rat' (growthP b c).2 2000000000 10000 := g2
  have c1 := ceil_bound q1
  have c2 := floor_bound q2
  exact ⟨q1, q2, by omega, by omega, hn.2.2.2.1⟩
theorem shown_ok {b : Book} (hs : SizeOk b) (hf : 0 ≤ b.1.1 ∧ b.1.1 ≤ b.1.2 ∧ b.1.2 ≤ 1000000) {c : Cmp} (h : CmpOk b c) {s : Int × Int} (h1 : -2305843009213693952 ≤ s.1 ∧ s.1 ≤ 2305843009213693952) (h2 : -2305843009213693952 ≤ s.2 ∧ s.2 ≤ 2305843009213693952) : f_c_shown b c s = some (shownP b c s) := by
  have hn := (numsP_iff c).1 h.nums
  have ha := pileP_len hn.2.2.2.2.2.1
  have hb := pileP_len hn.2.2.2.2.2.2
  obtain ⟨q1, q2, b1, b2, b3⟩ := shown_bounds hf h
  unfold f_c_shown m_c_shown shownP lowP highP
  rw [growth_ok hs (by omega) (by omega) h.r1 h.r2 hn.2.2.2.2.1, bindF_some, films_ok (by omega) (by omega) (by omega) (by omega) (by omega) (by omega), bindF_some, Ceil_ok q1.rat, bindF_some, Floor_ok q2.rat, bindF_some]
  dsimp only
  rw [ck_ok (by omega) (by omega), ck_ok (by omega) (by omega), ck_ok (by omega) (by omega), ck_ok (by omega) (by omega), ifb_eq]
  by_cases hlt : (growthP b c).2.1 / (growthP b c).2.2 + (filmsP b c).2 + c.2.2.2.2.2.1 < ceilP (growthP b c).1 + (filmsP b c).1 - c.2.2.2.2.2.1
  · rw [if_pos (by simpa [igt] using hlt), if_pos hlt]
  · rw [if_neg (by simpa [igt] using hlt), if_neg hlt, ck_ok (by omega) (by omega), ck_ok (by omega) (by omega)]
def headLinks (b : Book) : List Lk := (linksP b).take ((linksP b).length - 2)
def PredictP (b : Book) (c : Cmp) : (Int × Int) × Int :=
  if (WithP b (zeroDiff c)).2 ≠ 0 then ((0, 0), (WithP b (zeroDiff c)).2) else
  if (BoundP (headLinks (more b (zeroDiff c))) ((nodesP (more b (zeroDiff c))).length + 1) (cy (more b (zeroDiff c)) (zeroDiff c)) (cx (more b (zeroDiff c)) (zeroDiff c))).2 ≠ 0 then
    ((0, 0), (BoundP (headLinks (more b (zeroDiff c))) ((nodesP (more b (zeroDiff c))).length + 1) (cy (more b (zeroDiff c)) (zeroDiff c)) (cx (more b (zeroDiff c)) (zeroDiff c))).2) else
  if (BoundP (headLinks (more b (zeroDiff c))) ((nodesP (more b (zeroDiff c))).length + 1) (cx (more b (zeroDiff c)) (zeroDiff c)) (cy (more b (zeroDiff c)) (zeroDiff c))).2 ≠ 0 then
    ((0, 0), (BoundP (headLinks (more b (zeroDiff c))) ((nodesP (more b (zeroDiff c))).length + 1) (cx (more b (zeroDiff c)) (zeroDiff c)) (cy (more b (zeroDiff c)) (zeroDiff c))).2) else
  shownP b (zeroDiff c) (-(BoundP (headLinks (more b (zeroDiff c))) ((nodesP (more b (zeroDiff c))).length + 1) (cx (more b (zeroDiff c)) (zeroDiff c)) (cy (more b (zeroDiff c)) (zeroDiff c))).1,
    (BoundP (headLinks (more b (zeroDiff c))) ((nodesP (more b (zeroDiff c))).length + 1) (cy (more b (zeroDiff c)) (zeroDiff c)) (cx (more b (zeroDiff c)) (zeroDiff c))).1)
theorem BoundP_bd {L : List Lk} {N : Nat} (h : SysOk L N) {s t : Int} (hs : 0 ≤ s ∧ s < N) (ht : 0 ≤ t ∧ t < N) : -2305843009213693952 ≤ (BoundP L N s t).1 ∧ (BoundP L N s t).1 ≤ 2305843009213693952 := by
  unfold BoundP
  have h2 := h.n60
  split
  · simp
  · rename_i ho
    have ho' : openP L N = true := by simpa using ho
    obtain ⟨p, hp⟩ := (openP_iff h.links (by omega)).1 ho'
    have hd := bounds_dist h.links (by omega) hp hs
    split
    · simp
    · rename_i hne
      dsimp only
      have hb := hd.bd t ht.1 ht.2
      obtain ⟨vs, hw⟩ := hd.att t ht.1 ht.2 hne
      have h3 := hw.low' hp
      have h4 := negS_ge (L := L) (fun l hl => (h.most l hl).1) (M := 4503599627370496) (by omega)
      have h5 := h.len
      unfold Free at hb
      constructor <;> omega
theorem Predict_ok {b : Book} (hs : SizeOk b) (hr : ∀ g ∈ b.2.1, I64 g.2.2.2.2.1.1) {c : Cmp} (hA : c.2.2.1.length ≤ 1000) (hB : c.2.2.2.1.length ≤ 1000) : f_c_Predict b c = some (PredictP b c) := by
  unfold f_c_Predict m_c_Predict PredictP
  rw [show f_c_With b (c.1, c.2.1, c.2.2.1, c.2.2.2.1, 0, c.2.2.2.2.2) = f_c_With b (zeroDiff c) from rfl, With_ok hs hr (c := zeroDiff c) hA hB, bindF_some]
  by_cases hw : (WithP b (zeroDiff c)).2 = 0
  · rw [ifb_f (by simp [ine, hw]), if_neg (show ¬ ((WithP b (zeroDiff c)).2 ≠ 0) from fun h => h hw)]
    -- the book is valid, and so is the greater one
    have hb : checkP b = 0 := by
      unfold WithP at hw
      split at hw
      · rename_i h; exact (h hw).elim
      · rename_i h; simpa using h
    have hm : checkP (more b (zeroDiff c)) = 0 := by
      unfold WithP at hw
      rw [if_neg (by simp [hb])] at hw
      split at hw
      · rename_i h; exact (h hw).elim
      · rename_i h; simpa using h
    have he : WithP b (zeroDiff c) = (more b (zeroDiff c), 0) := by
      unfold WithP
      rw [if_neg (by simp [hb]), if_neg (by simp [hm])]
    have g := (checkP_iff b).1 hb
    have gm := (checkP_iff _).1 hm
    have hmem : zeroDiff c ∈ (more b (zeroDiff c)).2.2.2.2.1 := by simp [more]
    have hN := gm.nodes
    have hll := links_len gm
    have hcl : (more b (zeroDiff c)).2.2.2.2.1.length = b.2.2.2.2.1.length + 1 := by simp [more]
    have hlk := gm.links
    have hsys : SysOk (headLinks (more b (zeroDiff c))) ((nodesP (more b (zeroDiff c))).length + 1) := gm.sys.sub (fun l hl => List.mem_of_mem_take hl) (by unfold headLinks; rw [List.length_take]; omega)
    have hx := (cx_left gm hmem).rng
    have hy := (cy_left gm hmem).rng
    have lA : c.2.2.1.length ≤ 1000 := hA
    rw [he]
    dsimp only
    rw [made_ok' gm, bindF_some]
    dsimp only
    rw [ilen_eq, ck_ok (by omega) (by omega)]
    have e1 : ((ile (0 : Int) (((linksP (more b (zeroDiff c))).length : Int) - 2)) && (ile (((linksP (more b (zeroDiff c))).length : Int) - 2) (olen (linksP (more b (zeroDiff c)))))) = true := by
      simp [ile, olen]; omega
    have e2 : (((linksP (more b (zeroDiff c))).length : Int) - 2).toNat = (linksP (more b (zeroDiff c))).length - 2 := by omega
    rw [iff_of e1, left_ok (by omega) (by omega), bindF_some, at_ok _ _ _ (by dsimp only; omega), bindF_some, left_ok (by omega) (by omega), bindF_some, at_ok _ _ _ (by dsimp only; omega), bindF_some, e2]
    have e3 : (((nodesP (more b (zeroDiff c))).length : Int) + 1) = (((nodesP (more b (zeroDiff c))).length + 1 : Nat) : Int) := by push_cast; rfl
    rw [e3]
    rw [show List.take ((linksP (more b (zeroDiff c))).length - 2) (linksP (more b (zeroDiff c))) = headLinks (more b (zeroDiff c)) from rfl]
    dsimp only
    rw [show atP (nodesP (more b (zeroDiff c))) (leftP c.2.2.1 c.2.2.2.1) c.2.1 = cx (more b (zeroDiff c)) (zeroDiff c) from rfl, show atP (nodesP (more b (zeroDiff c))) (leftP c.2.2.2.1 c.2.2.1) c.2.1 = cy (more b (zeroDiff c)) (zeroDiff c) from rfl]
    rw [Bound_ok hsys hy hx, bindF_some, Bound_ok hsys hx hy]
    have b1 := BoundP_bd hsys hy hx
    have b2 := BoundP_bd hsys hx hy
    generalize hB1 : BoundP (headLinks (more b (zeroDiff c))) ((nodesP (more b (zeroDiff c))).length + 1) (cy (more b (zeroDiff c)) (zeroDiff c)) (cx (more b (zeroDiff c)) (zeroDiff c)) = B1 at b1 ⊢
    generalize hB2 : BoundP (headLinks (more b (zeroDiff c))) ((nodesP (more b (zeroDiff c))).length + 1) (cx (more b (zeroDiff c)) (zeroDiff c)) (cy (more b (zeroDiff c)) (zeroDiff c)) = B2 at b2 ⊢
    by_cases h1 : B1.2 = 0
    · rw [ifb_f (by simp [ine, h1]), if_neg (show ¬ (B1.2 ≠ 0) from fun h => h h1), bindF_some]
      by_cases h2 : B2.2 = 0
      · rw [ifb_f (by simp [ine, h2]), if_neg (show ¬ (B2.2 ≠ 0) from fun h => h h2), ck_ok (by omega) (by omega)]
        have hck : CmpOk b (zeroDiff c) := ⟨(gm.cmp hmem).nums, (gm.cmp hmem).r1, (gm.cmp hmem).r2⟩
        rw [show f_c_shown b (c.1, c.2.1, c.2.2.1, c.2.2.2.1, 0, c.2.2.2.2.2) (0 - B2.1, B1.1) = f_c_shown b (zeroDiff c) (0 - B2.1, B1.1) from rfl, shown_ok g.size g.film hck (by dsimp only; omega) (by dsimp only; omega), bindF_some, Int.zero_sub]
      · rw [ifb_t (by simp [ine, h2]), if_pos h2]
    · rw [ifb_t (by simp [ine, h1]), if_pos h1]
  · rw [ifb_t (by simp [ine, hw]), if_pos hw]
end Go.Proofs.ZzM
end

noncomputable section
namespace Go.Proofs.ZzM
open Go Go.Am
structure In (b : Book) : Prop where
  size : SizeOk b
  num : ∀ g ∈ b.2.1, I64 g.2.2.2.2.1.1
def NodesP (b : Book) : List (Int × Int) × Int := if checkP b ≠ 0 then ([], checkP b) else (nodesP b, 0)
theorem Nodes_ok {b : Book} (h : In b) : f_c_Nodes b = some (NodesP b) := by
  unfold f_c_Nodes m_c_Nodes NodesP
  rw [Check_ok h.size h.num, bindF_some]
  by_cases hc : checkP b = 0
  · rw [ifb_f (by simp [ine, hc]), nodes_ok h.size, bindF_some, if_neg (show ¬ (checkP b ≠ 0) from fun h => h hc)]
  · rw [ifb_t (by simp [ine, hc]), if_pos hc]
def SystemP (b : Book) : Sys × List (Int × Int) × Int := if checkP b ≠ 0 then ((0, []), [], checkP b) else ((((nodesP b).length : Int) + 1, linksP b), sourcesP b, 0)
theorem System_ok {b : Book} (h : In b) : f_c_System b = some (SystemP b) := by
  unfold f_c_System m_c_System SystemP
  rw [Check_ok h.size h.num, bindF_some]
  by_cases hc : checkP b = 0
  · rw [ifb_f (by simp [ine, hc]), made_ok' ((checkP_iff b).1 hc), bindF_some, if_neg (show ¬ (checkP b ≠ 0) from fun h => h hc)]
  · rw [ifb_t (by simp [ine, hc]), if_pos hc]
def cmp0 : Cmp := (0, 0, [], [], 0, 0, 0, 0)
def whichP (b : Book) (i : Int) : Cmp × Int := if checkP b ≠ 0 then (cmp0, checkP b) else if i < 0 ∨ (b.2.2.2.2.1.length : Int) ≤ i then (cmp0, 1) else (b.2.2.2.2.1[i.toNat]?.getD cmp0, 0)
theorem which_ok {b : Book} (h : In b) (i : Int) : f_c_which b i = some (whichP b i) := by
  unfold f_c_which m_c_which whichP
  rw [Check_ok h.size h.num, bindF_some]
  by_cases hc : checkP b = 0
  · rw [ifb_f (by simp [ine, hc]), if_neg (show ¬ (checkP b ≠ 0) from fun h => h hc), ilen_eq]
    by_cases h1 : i < 0
    · rw [ifb_t (by simp [ilt, h1]), if_pos (.inl h1)]; rfl
    · rw [ifb_f (by simp [ilt]; omega)]
      by_cases h2 : (b.2.2.2.2.1.length : Int) ≤ i
      · rw [ifb_t (by simp [ige, h2]), if_pos (.inr h2)]; rfl
      · rw [ifb_f (by simp [ige]; omega), if_neg (by omega)]
        obtain ⟨j, rfl⟩ := Int.eq_ofNat_of_zero_le (show 0 ≤ i by omega)
        have hj : j < b.2.2.2.2.1.length := by omega
        rw [iget_nat (List.getElem?_eq_getElem hj), Int.toNat_natCast, List.getElem?_eq_getElem hj]
        rfl
  · rw [ifb_t (by simp [ine, hc]), if_pos hc]; rfl
theorem whichP_zero {b : Book} {i : Int} (h : (whichP b i).2 = 0) : Good b ∧ (whichP b i).1 ∈ b.2.2.2.2.1 ∧ b.2.2.2.2.1[i.toNat]? = some (whichP b i).1 ∧ 0 ≤ i := by
  unfold whichP at h ⊢
  split at h
  · rename_i hc; exact (hc h).elim
  · rename_i hc
    have hc0 : checkP b = 0 := by simpa using hc
    split at h
    · simp at h
    · rename_i hi
      have hj : i.toNat < b.2.2.2.2.1.length := by omega
      rw [if_neg hc, if_neg hi, List.getElem?_eq_getElem hj]
      exact ⟨(checkP_iff b).1 hc0, List.getElem_mem hj, rfl, by omega⟩
def GrowthP (b : Book) (i : Int) : ((Int × Int) × (Int × Int)) × Int := if (whichP b i).2 ≠ 0 then (((0, 0), (0, 0)), (whichP b i).2) else (growthP b (whichP b i).1, 0)
theorem Growth_ok {b : Book} (h : In b) (i : Int) : f_c_Growth b i = some (GrowthP b i) := by
  unfold f_c_Growth m_c_Growth GrowthP
  rw [which_ok h, bindF_some]
  by_cases hw : (whichP b i).2 = 0
  · obtain ⟨g, hm, _, _⟩ := whichP_zero hw
    rw [ifb_f (by simp [ine, hw]), g.growth hm, bindF_some, if_neg (show ¬ ((whichP b i).2 ≠ 0) from fun h => h hw)]
  · rw [ifb_t (by simp [ine, hw]), if_pos hw]
def SaysP (b : Book) (i : Int) : (Int × Int) × Int := if (whichP b i).2 ≠ 0 then ((0, 0), (whichP b i).2) else (saysP b (whichP b i).1, 0)
theorem Says_ok {b : Book} (h : In b) (i : Int) : f_c_Says b i = some (SaysP b i) := by
  unfold f_c_Says m_c_Says SaysP
  rw [which_ok h, bindF_some]
  by_cases hw : (whichP b i).2 = 0
  · obtain ⟨g, hm, _, _⟩ := whichP_zero hw
    rw [ifb_f (by simp [ine, hw]), g.says hm, bindF_some, if_neg (show ¬ ((whichP b i).2 ≠ 0) from fun h => h hw)]
  · rw [ifb_t (by simp [ine, hw]), if_pos hw]
def askedP (b : Book) (g : Int) (ds : List Int) : Int := if checkP b ≠ 0 then checkP b else if ds.any (fun d => !dayP d) then 1 else if (mget (k := tI) (v := tyGauge) g (shelf b)).isNone then 5 else 0
theorem askedC_ok {b : Book} (h : In b) (g : Int) {ds : List Int} (hd : ds.length ≤ 1000) : f_c_asked b g ds = some (askedP b g ds) := by
  unfold f_c_asked m_c_asked askedP
  rw [Check_ok h.size h.num, bindF_some]
  by_cases hc : checkP b = 0
  · rw [ifb_f (by simp [ine, hc]), if_neg (show ¬ (checkP b ≠ 0) from fun h => h hc)]
    have last : (bindF (f_c_shelved b) fun r9 => lget (k := tI) (v := tyGauge) g r9 (fun y10 => some (0 : Int)) (some (5 : Int))) = some (if (mget (k := tI) (v := tyGauge) g (shelf b)).isNone then 5 else 0) := by
      rw [shelved_ok h.size.gauges, bindF_some]
      unfold lget
      cases mget (k := tI) (v := tyGauge) g (shelf b) <;> rfl
    refine Eq.trans (loop_any ds (fun d => !dayP d) (fun z5 => ifb (ige z5 (0 : Int)) (some (1 : Int)) (bindF (f_c_shelved b) fun r6 => lget (k := tI) (v := tyGauge) g r6 (fun y7 => some (0 : Int)) (some (5 : Int)))) (some 1) (some (if (mget (k := tI) (v := tyGauge) g (shelf b)).isNone then 5 else 0)) (fun j => ?_) (fun i d hi hdi kn => ?_) (fun kn => ?_)) ?_
    · rw [ifb_t (by simp [ige])]
    · try dsimp only
      unfold m_c_asked_L0
      rw [ifb_lt' hi, iget_nat hdi, isDay_ok, bindF_some, ck_succ hi (by omega), ifb_eq]
    · try dsimp only
      unfold m_c_asked_L0
      rw [ifb_ge, last]
    · cases ds.any (fun d => !dayP d) <;> rfl
  · rw [ifb_t (by simp [ine, hc]), if_pos hc]
theorem askedP_zero {b : Book} {g : Int} {ds : List Int} (h : askedP b g ds = 0) : Good b ∧ (∀ d ∈ ds, 0 ≤ d ∧ d ≤ 20000) ∧ ∃ x, gaugeOf b g = some x ∧ mget (k := tI) (v := tyGauge) g (shelf b) = some x := by
  unfold askedP at h
  split at h
  · rename_i hc; exact (hc h).elim
  · rename_i hc
    have hc0 : checkP b = 0 := by simpa using hc
    have hg := (checkP_iff b).1 hc0
    split at h
    · omega
    · rename_i hd
      split at h
      · omega
      · rename_i hm
        refine ⟨hg, fun d hdm => ?_, ?_⟩
        · have := List.any_eq_false.1 (Bool.eq_false_iff.2 hd) d hdm
          simpa [dayP, inP] using this
        · rw [mget_shelf hg.ids] at hm ⊢
          cases hx : gaugeOf b g with
          | none => rw [hx] at hm; simp at hm
          | some x => exact ⟨x, rfl, rfl⟩
def LossP (b : Book) (g f t : Int) : Int × Int :=
  if askedP b g [f, t] ≠ 0 then (0, askedP b g [f, t]) else
  match mget (k := tI) (v := tyGauge) g (shelf b) with
  | some x => if t < f then (0, 3) else if f < x.2.1 then (0, 3) else (lossP b x f t, 0)
  | none => (0, 0)
theorem Loss_ok {b : Book} (h : In b) (g f t : Int) : f_c_Loss b g f t = some (LossP b g f t) := by
  unfold f_c_Loss m_c_Loss LossP
  rw [askedC_ok h g (by simp), bindF_some]
  by_cases ha : askedP b g [f, t] = 0
  · obtain ⟨hg, hd, x, hx, hm⟩ := askedP_zero ha
    have d1 := hd f (by simp)
    have d2 := hd t (by simp)
    have hr := hg.gaugeR (gaugeOf_some hx).1
    rw [ifb_f (by simp [ine, ha]), if_neg (show ¬ (askedP b g [f, t] ≠ 0) from fun h => h ha), shelved_ok h.size.gauges, bindF_some]
    simp only [lget, hm]
    rw [ifb_eq]
    by_cases h1 : t < f
    · rw [if_pos (by simpa [igt] using h1), if_pos h1]
    · rw [if_neg (by simpa [igt] using h1), if_neg h1, ifb_eq]
      by_cases h2 : f < x.2.1
      · rw [if_pos (by simpa [ilt] using h2), if_pos h2]
      · rw [if_neg (by simpa [ilt] using h2), if_neg h2, loss_ok hg hr.2.2.2.2.2.2.2 ⟨by omega, by omega⟩ ⟨by omega, by omega⟩, bindF_some]
  · rw [ifb_t (by simp [ine, ha]), if_pos ha]
def CanP (b : Book) (day : Int) (x y : List Int) : Bool × Int :=
  if checkP b ≠ 0 then (false, checkP b) else if !dayP day then (false, 1) else if !pileP x then (false, 1) else if !pileP y then (false, 1) else
  if (x ++ y).any (fun id => (awayP b id day).isSome || madeE (shelf b) id day != 0) then (false, 0) else
  (decide ((leftP x y).length ≤ 1) && (decide ((leftP y x).length ≤ 1) && decide (0 < (leftP x y).length + (leftP y x).length)), 0)
theorem Can_ok {b : Book} (h : In b) (day : Int) {x y : List Int} (hx : x.length ≤ 100000) (hy : y.length ≤ 100000) : f_c_Can b day x y = some (CanP b day x y) := by
  unfold f_c_Can m_c_Can CanP
  rw [Check_ok h.size h.num, bindF_some]
  by_cases hc : checkP b = 0
  · rw [ifb_f (by simp [ine, hc]), if_neg (show ¬ (checkP b ≠ 0) from fun h => h hc), isDay_ok, bindF_some]
    cases dayP day with
    | false => rfl
    | true =>
    rw [isPile_ok (by omega), bindF_some]
    cases pileP x with
    | false => rfl
    | true =>
    rw [isPile_ok (by omega), bindF_some]
    cases pileP y with
    | false => rfl
    | true =>
    simp only [Bool.not_true, ifb_false, Bool.false_eq_true, if_false]
    rw [shelved_ok h.size.gauges, bindF_some, Concat_ok (by omega) (by omega), bindF_some]
    have hxy : (x ++ y).length ≤ 200000 := by simp; omega
    have l1 := leftP_len x y
    have l2 := leftP_len y x
    refine Eq.trans (loop_any (x ++ y) (fun id => (awayP b id day).isSome || madeE (shelf b) id day != 0) (fun _ => some (false, 0)) (some (false, 0)) (some (decide ((leftP x y).length ≤ 1) && (decide ((leftP y x).length ≤ 1) && decide (0 < (leftP x y).length + (leftP y x).length)), 0)) (fun _ => rfl) (fun i a hi ha kn => ?_) (fun kn => ?_)) ?_
    · try dsimp only
      unfold m_c_Can_L0
      rw [ifb_lt' hi, iget_nat ha, show f_c_away ((b.1.1, b.1.2), b.2.1, b.2.2.1, b.2.2.2.1, b.2.2.2.2.1, b.2.2.2.2.2) a day = f_c_away b a day from rfl, away_ok h.size.loans, bindF_some, made_ok, bindF_some, ck_succ hi (by omega)]
      cases awayP b a day with
      | some l => simp
      | none =>
        cases hm : (madeE (shelf b) a day != 0) with
        | true =>
          have : ine (madeE (shelf b) a day) 0 = true := hm
          simp [this]
        | false =>
          have : ine (madeE (shelf b) a day) 0 = false := hm
          simp [this]
    · try dsimp only
      unfold m_c_Can_L0
      rw [ifb_ge, left_ok (by omega) (by omega), bindF_some, left_ok (by omega) (by omega), bindF_some, ilen_eq, ilen_eq, ck_ok (by omega) (by omega), ifb_eq]
      by_cases g1 : (leftP x y).length ≤ 1
      · rw [if_pos (by simp [ile]; omega), ifb_eq]
        by_cases g2 : (leftP y x).length ≤ 1
        · rw [if_pos (by simp [ile]; omega)]
          simp [g1, g2, igt]
          omega
        · rw [if_neg (by simp [ile]; omega)]
          simp [g2]
      · rw [if_neg (by simp [ile]; omega)]
        simp [g1]
    · cases List.any (x ++ y) (fun id => (awayP b id day).isSome || madeE (shelf b) id day != 0) <;> rfl
  · rw [ifb_t (by simp [ine, hc]), if_pos hc]
def exB : Book := ((0, 2), [(1, 0, 1000, (-5, 5), (1, 10), 1), (2, 0, 1000, (-50, 50), (1, 4), 0)], [(1, 10)], [(1, (20, 29), 3)], [(7, 10, [1], [2], -20, 1, 100, 200)], [])
theorem exB_in : In exB := ⟨⟨by decide, by decide, by decide, by decide, by decide, by decide⟩, by
  intro g hg
  simp [exB] at hg
  rcases hg with rfl | rfl <;> exact ⟨by decide, by decide⟩⟩
def exC : Cmp := (8, 10, [1], [2], 0, 0, 0, 0)
theorem x1 : GrowthP exB 0 = (((-30, 1), (-15, 1)), 0) := by decide +kernel
theorem x2 : SaysP exB 0 = ((-6, 11), 0) := by decide +kernel
theorem x3 : NodesP exB = ([(1, 0), (1, 10), (2, 0), (2, 10)], 0) := by decide +kernel
theorem x4 : (SystemP exB).1.1 = 5 ∧ (SystemP exB).1.2.length = 10 ∧ (SystemP exB).2.1.length = 10 ∧ (SystemP exB).2.1[9]? = some (3, 0) ∧ (SystemP exB).2.2 = 0 := by decide +kernel
theorem x5 : LossP exB 1 0 25 = (16, 0) := by decide +kernel
theorem x6 : FitsP exB [1000, 1000, 990, 990] = (true, 0) := by decide +kernel
theorem x7 : FitsP exB [1000, 999, 990, 990] = (false, 0) := by decide +kernel
theorem x8 : PredictP exB exC = ((-6, 11), 0) := by decide +kernel
theorem x9 : CanP exB 25 [1] [2] = (false, 0) := by decide +kernel
theorem sanity_ok : f_w5_sanity = some true := by
  unfold f_w5_sanity m_w5_sanity f_w5_example m_w5_example
  obtain ⟨a1, a2, a3, a4, a5⟩ := x4
  rw [bindF_some]
  rw [show ((((0 : Int), (2 : Int)), [((1 : Int), (0 : Int), (1000 : Int), ((-5 : Int), (5 : Int)), ((1 : Int), (10 : Int)), (1 : Int)), ((2 : Int), (0 : Int), (1000 : Int), ((-50 : Int), (50 : Int)), ((1 : Int), (4 : Int)), (0 : Int))], [((1 : Int), (10 : Int))], [((1 : Int), ((20 : Int), (29 : Int)), (3 : Int))], [((7 : Int), (10 : Int), [(1 : Int)], [(2 : Int)], (-20 : Int), (1 : Int), (100 : Int), (200 : Int))], ([] : List (Int × Int))) : Book) = exB from rfl]
  rw [Growth_ok exB_in, bindF_some, Says_ok exB_in, bindF_some, Nodes_ok exB_in, bindF_some, System_ok exB_in, bindF_some, Loss_ok exB_in, bindF_some, Fits_ok exB_in.size exB_in.num, bindF_some, Fits_ok exB_in.size exB_in.num, bindF_some,
    show f_c_Predict exB ((8 : Int), (10 : Int), [(1 : Int)], [(2 : Int)], (0 : Int), (0 : Int), (0 : Int), (0 : Int)) = some (PredictP exB exC) from Predict_ok exB_in.size exB_in.num (c := exC) (by decide) (by decide), bindF_some, Can_ok exB_in _ (by decide) (by decide), bindF_some, x1, x2, x3, x5, x6, x7, x8, x9]
  rw [a1, a5, ilen_eq, ilen_eq, ilen_eq, a2, a3]
  rw [show ((9 : Int)) = ((9 : Nat) : Int) from rfl, iget_nat a4]
  rfl
end Go.Proofs.ZzM
end
