import PyProof.Rows.All
import Wide.All
import OpenK.AllK
import Wide.FinOn
import HandS.ForMost
import HandS.TupSets
import KE.SortData
import HandS.Deep
import HandS.Conv
import HandS.StrMore
import HandS.SortKw
import HandS.Walk
import KE.GoesMore
import KE.LtData
import KE.KMinKey
import HandS.IsInst
import HandS.Wide
import HandS.TupLen
import PySem.Challenge.RW_quarterfold_k54_whole_nearest_on_great_f
/-! Plain mathematics A: boxes, the numbering of a shape, its rows, their order, depth and count of leaves. -/
set_option maxHeartbeats 1000000
namespace QF
structure Bx where
  r : Int
  c : Int
  h : Int
  w : Int
structure Qd where
  a : Nat
  b : Nat
  c : Nat
  d : Nat
  deriving DecidableEq

def meets (b : Bx) (r c s : Int) : Bool :=
  if (decide (r + s ≤ b.r) || decide (b.r + b.h ≤ r)) = true then false else decide (c < b.c + b.w) && decide (b.c < c + s)
def has (b : Bx) (r c s : Int) : Bool :=
  if (decide (r < b.r) || decide (b.r + b.h < r + s)) = true then false else decide (b.c ≤ c) && decide (c + s ≤ b.c + b.w)
theorem meets_iff {b : Bx} {r c s : Int} : meets b r c s = true ↔ (b.r < r + s ∧ r < b.r + b.h ∧ c < b.c + b.w ∧ b.c < c + s) := by
  unfold meets
  by_cases h1 : r + s ≤ b.r <;> by_cases h2 : b.r + b.h ≤ r <;> simp [h1, h2] <;> omega
theorem has_iff {b : Bx} {r c s : Int} : has b r c s = true ↔ (b.r ≤ r ∧ r + s ≤ b.r + b.h ∧ b.c ≤ c ∧ c + s ≤ b.c + b.w) := by
  unfold has
  by_cases h1 : r < b.r <;> by_cases h2 : b.r + b.h < r + s <;> simp [h1, h2] <;> omega

/-! ### the place of a row -/
def idx : List Qd → Qd → Option Nat
  | [], _ => none
  | p :: R, q => if p = q then some 0 else (idx R q).map (· + 1)
theorem idx_some : ∀ {R : List Qd} {q : Qd} {i : Nat}, idx R q = some i → R[i]? = some q
  | [], _, _, h => by simp [idx] at h
  | p :: R, q, i, h => by
    unfold idx at h
    by_cases e : p = q
    · rw [if_pos e] at h
      cases h
      simp [e]
    · rw [if_neg e] at h
      cases h' : idx R q with
      | none => rw [h'] at h; cases h
      | some j =>
        rw [h'] at h
        have : j + 1 = i := by simpa using h
        subst this
        simpa using idx_some h'
theorem idx_none : ∀ {R : List Qd} {q : Qd}, idx R q = none → q ∉ R
  | [], _, _ => by simp
  | p :: R, q, h => by
    unfold idx at h
    by_cases e : p = q
    · rw [if_pos e] at h; cases h
    · rw [if_neg e] at h
      cases h' : idx R q with
      | none =>
        have := idx_none h'
        simp only [List.mem_cons, not_or]
        exact ⟨fun z => e z.symm, this⟩
      | some j => rw [h'] at h; cases h

/-! ### the numbering -/
def q0 : Qd := ⟨0, 0, 0, 0⟩
def q1 : Qd := ⟨1, 1, 1, 1⟩
def fin (q : Qd) (R : List Qd) : Nat × List Qd :=
  if q = q0 then (0, R) else if q = q1 then (1, R) else
    match idx R q with
    | some i => (i + 2, R)
    | none => (R.length + 2, R ++ [q])
def met (bs : List Bx) (r c s : Int) : List Bx := bs.filter fun b => meets b r c s
def stopsAt (ms : List Bx) (r c s : Int) : Bool := ms.isEmpty || ms.any fun b => has b r c s
def num : Nat → List Qd → List Bx → Int → Int → Nat × List Qd
  | 0, R, bs, r, c => (if (met bs r c 1).isEmpty then 0 else 1, R)
  | k + 1, R, bs, r, c =>
    let ms := met bs r c ((2 : Int) ^ (k + 1))
    if stopsAt ms r c ((2 : Int) ^ (k + 1)) = true then (if ms.isEmpty then 0 else 1, R) else
      let x0 := num k R ms r c
      let x1 := num k x0.2 ms r (c + (2 : Int) ^ k)
      let x2 := num k x1.2 ms (r + (2 : Int) ^ k) c
      let x3 := num k x2.2 ms (r + (2 : Int) ^ k) (c + (2 : Int) ^ k)
      fin ⟨x0.1, x1.1, x2.1, x3.1⟩ x3.2
theorem has_one {b : Bx} {r c : Int} (h : meets b r c 1 = true) : has b r c 1 = true := by
  rw [meets_iff] at h
  rw [has_iff]
  omega
/-- at a cell it always stops -/
theorem stops_one (bs : List Bx) (r c : Int) : stopsAt (met bs r c 1) r c 1 = true := by
  unfold stopsAt
  cases h : met bs r c 1 with
  | nil => rfl
  | cons b l =>
    have hb : b ∈ met bs r c 1 := by rw [h]; exact List.mem_cons_self ..
    have : meets b r c 1 = true := (List.mem_filter.mp hb).2
    simp [has_one this]

/-! ### tables of numbers -/
def nth (F : List Nat) (m : Nat) : Nat := F.getD m 0
def tab (z : List Nat) (g : Nat → Nat → Nat → Nat → Nat) (R : List Qd) : List Nat :=
  R.foldl (fun F q => F ++ [g (nth F q.a) (nth F q.b) (nth F q.c) (nth F q.d)]) z
theorem tab_snoc (z g R q) : tab z g (R ++ [q]) = tab z g R ++ [g (nth (tab z g R) q.a) (nth (tab z g R) q.b) (nth (tab z g R) q.c) (nth (tab z g R) q.d)] := by
  unfold tab
  rw [List.foldl_append]
  rfl
theorem tab_len (z g) : ∀ R : List Qd, (tab z g R).length = z.length + R.length := by
  intro R
  suffices h : ∀ (R : List Qd) (z : List Nat), (tab z g R).length = z.length + R.length from h R z
  intro R
  induction R with
  | nil => intro z; simp [tab]
  | cons q R ih =>
    intro z
    show (tab _ g R).length = _
    rw [ih]
    simp
    omega
theorem tab_pre (z g R) : ∀ E : List Qd, ∃ T, tab z g (R ++ E) = tab z g R ++ T := by
  intro E
  unfold tab
  rw [List.foldl_append]
  suffices h : ∀ (E : List Qd) (F : List Nat), ∃ T, E.foldl (fun F q => F ++ [g (nth F q.a) (nth F q.b) (nth F q.c) (nth F q.d)]) F = F ++ T from h E _
  intro E
  induction E with
  | nil => intro F; exact ⟨[], by simp⟩
  | cons q E ih =>
    intro F
    obtain ⟨T, hT⟩ := ih (F ++ [g (nth F q.a) (nth F q.b) (nth F q.c) (nth F q.d)])
    exact ⟨_, by rw [List.foldl_cons, hT, List.append_assoc]⟩
theorem nth_pre {F T : List Nat} {m : Nat} (h : m < F.length) : nth (F ++ T) m = nth F m := by
  unfold nth
  rw [List.getD_eq_getElem?_getD, List.getD_eq_getElem?_getD, List.getElem?_append_left h]
theorem nth_last (F : List Nat) (x : Nat) : nth (F ++ [x]) F.length = x := by
  unfold nth
  simp [List.getD_eq_getElem?_getD]
theorem tab_nth_pre {z : List Nat} (hz : z.length = 2) (g) {R E : List Qd} {m : Nat} (h : m < R.length + 2) : nth (tab z g (R ++ E)) m = nth (tab z g R) m := by
  obtain ⟨T, hT⟩ := tab_pre z g R E
  rw [hT]
  exact nth_pre (by rw [tab_len]; omega)
def max4 (a b c d : Nat) : Nat := max (max a b) (max c d)
def deps (R : List Qd) : List Nat := tab [0, 0] (fun a b c d => 1 + max4 a b c d) R
def lvs (R : List Qd) : List Nat := tab [1, 1] (fun a b c d => a + b + c + d) R

/-! ### good rows -/
structure Gd (R : List Qd) : Prop where
  lt : ∀ i q, R[i]? = some q → q.a < i + 2 ∧ q.b < i + 2 ∧ q.c < i + 2 ∧ q.d < i + 2
  nd : R.Nodup
  n0 : q0 ∉ R
  n1 : q1 ∉ R
theorem Gd.nil : Gd [] := ⟨fun i q h => by simp at h, List.nodup_nil, by simp, by simp⟩
theorem Gd.snoc {R : List Qd} {q : Qd} (G : Gd R) (ha : q.a < R.length + 2) (hb : q.b < R.length + 2) (hc : q.c < R.length + 2) (hd : q.d < R.length + 2) (hn : q ∉ R) (h0 : q ≠ q0) (h1 : q ≠ q1) : Gd (R ++ [q]) := by
  refine ⟨fun i p h => ?_, ?_, ?_, ?_⟩
  · by_cases hi : i < R.length
    · rw [List.getElem?_append_left hi] at h
      exact G.lt i p h
    · by_cases hi2 : i = R.length
      · subst hi2
        simp at h
        subst h
        exact ⟨ha, hb, hc, hd⟩
      · rw [List.getElem?_eq_none (by simp; omega)] at h
        cases h
  · rw [List.nodup_append]
    refine ⟨G.nd, by simp, fun x hx y hy => ?_⟩
    have : y = q := by simpa using hy
    subst this
    intro e
    subst e
    exact hn hx
  · simp only [List.mem_append, List.mem_singleton, not_or]
    exact ⟨G.n0, fun z => h0 z.symm⟩
  · simp only [List.mem_append, List.mem_singleton, not_or]
    exact ⟨G.n1, fun z => h1 z.symm⟩

/-! ### the order in which rows end -/
inductive Ord (F : List Qd) : Nat → Nat → Nat → Nat → Prop
  | low (n m t : Nat) (h : m < t + 2) : Ord F n m t t
  | row (n t t1 t2 t3 t4 : Nat) (q : Qd) (hq : F[t4]? = some q) (ha : Ord F n q.a t t1) (hb : Ord F n q.b t1 t2) (hc : Ord F n q.c t2 t3) (hd : Ord F n q.d t3 t4) (h : t ≤ t4) : Ord F (n + 1) (t4 + 2) t (t4 + 1)
theorem Ord.le {F : List Qd} : ∀ {n m t t' : Nat}, Ord F n m t t' → t ≤ t'
  | _, _, _, _, .low .. => Nat.le_refl _
  | _, _, _, _, .row _ _ _ _ _ _ _ _ _ _ _ _ h => Nat.le_succ_of_le h

/-! ### how much is gone down for one box -/
def cst : Nat → Bx → Int → Int → Nat
  | 0, _, _, _ => 0
  | k + 1, b, r, c => if (meets b r c ((2 : Int) ^ (k + 1)) && !has b r c ((2 : Int) ^ (k + 1))) = true then
      1 + (cst k b r c + cst k b r (c + (2 : Int) ^ k) + cst k b (r + (2 : Int) ^ k) c + cst k b (r + (2 : Int) ^ k) (c + (2 : Int) ^ k)) else 0
def sumC (k : Nat) (bs : List Bx) (r c : Int) : Nat := (bs.map fun b => cst k b r c).sum
theorem sumC_filter (k : Nat) (p : Bx → Bool) (r c : Int) : ∀ bs : List Bx, sumC k (bs.filter p) r c ≤ sumC k bs r c
  | [] => Nat.le_refl _
  | b :: bs => by
    have ih := sumC_filter k p r c bs
    unfold sumC at *
    by_cases h : p b = true
    · rw [List.filter_cons_of_pos h]
      simp
      exact ih
    · rw [List.filter_cons_of_neg h]
      simp
      omega
theorem sumC_step {k : Nat} {r c : Int} : ∀ {ms : List Bx}, (∀ b ∈ ms, meets b r c ((2 : Int) ^ (k + 1)) = true ∧ has b r c ((2 : Int) ^ (k + 1)) = false) →
    sumC (k + 1) ms r c = ms.length + (sumC k ms r c + sumC k ms r (c + (2 : Int) ^ k) + sumC k ms (r + (2 : Int) ^ k) c + sumC k ms (r + (2 : Int) ^ k) (c + (2 : Int) ^ k))
  | [], _ => rfl
  | b :: ms, h => by
    have ih := sumC_step (ms := ms) fun x hx => h x (List.mem_cons_of_mem _ hx)
    obtain ⟨h1, h2⟩ := h b (List.mem_cons_self ..)
    have e : cst (k + 1) b r c = 1 + (cst k b r c + cst k b r (c + (2 : Int) ^ k) + cst k b (r + (2 : Int) ^ k) c + cst k b (r + (2 : Int) ^ k) (c + (2 : Int) ^ k)) := by
      show (if _ then _ else _) = _
      rw [h1, h2]
      rfl
    unfold sumC at *
    simp only [List.map_cons, List.sum_cons, List.length_cons]
    rw [ih, e]
    omega

/-! ### what the numbering does -/
structure NumOk (k : Nat) (R : List Qd) (bs : List Bx) (r c : Int) (m : Nat) (R' : List Qd) : Prop where
  pre : ∃ E, R' = R ++ E ∧ (E ≠ [] → m = R'.length + 1) ∧ E.length ≤ sumC k bs r c
  lt : m < R'.length + 2
  gd : Gd R → Gd R'
  dep : nth (deps R') m ≤ k
  lv : nth (lvs R') m ≤ 1 + 3 * sumC k bs r c
  ord : Gd R → ∀ E, Ord (R' ++ E) k m R.length R'.length
theorem deps_low (R : List Qd) {m : Nat} (h : m < 2) : nth (deps R) m = 0 := by
  have := tab_nth_pre (z := [0, 0]) rfl (fun a b c d => 1 + max4 a b c d) (R := []) (E := R) (m := m) (by simpa using h)
  rw [List.nil_append] at this
  unfold deps
  rw [this]
  match m, h with
  | 0, _ => rfl
  | 1, _ => rfl
theorem lvs_low (R : List Qd) {m : Nat} (h : m < 2) : nth (lvs R) m = 1 := by
  have := tab_nth_pre (z := [1, 1]) rfl (fun a b c d => a + b + c + d) (R := []) (E := R) (m := m) (by simpa using h)
  rw [List.nil_append] at this
  unfold lvs
  rw [this]
  match m, h with
  | 0, _ => rfl
  | 1, _ => rfl
theorem NumOk.plain {k : Nat} {R : List Qd} {bs : List Bx} {r c : Int} {m : Nat} (h : m < 2) : NumOk k R bs r c m R where
  pre := ⟨[], by simp, fun z => absurd rfl z, Nat.zero_le _⟩
  lt := by omega
  gd := id
  dep := by rw [deps_low R h]; exact Nat.zero_le _
  lv := by rw [lvs_low R h]; omega
  ord := fun _ E => .low _ _ _ (by omega)
theorem deps_row {R : List Qd} {q : Qd} {i : Nat} (hq : R[i]? = some q) (G : Gd R) :
    nth (deps R) (i + 2) = 1 + max4 (nth (deps R) q.a) (nth (deps R) q.b) (nth (deps R) q.c) (nth (deps R) q.d) := by
  have hi : i < R.length := (List.getElem?_eq_some_iff.mp hq).1
  have e : R = (R.take i ++ [q]) ++ R.drop (i + 1) := by
    rw [List.append_assoc, List.singleton_append]
    have : q = R[i] := (List.getElem?_eq_some_iff.mp hq).2.symm
    rw [this, ← List.drop_eq_getElem_cons hi, List.take_append_drop]
  obtain ⟨ha, hb, hc, hd⟩ := G.lt i q hq
  have hl : (R.take i).length = i := by rw [List.length_take]; omega
  have key : ∀ m, m < i + 2 → nth (deps R) m = nth (deps (R.take i)) m := fun m hm => by
    have := tab_nth_pre (z := [0, 0]) rfl (fun a b c d => 1 + max4 a b c d) (R := R.take i) (E := R.drop i) (m := m) (by rw [hl]; exact hm)
    rw [List.take_append_drop] at this
    exact this
  rw [key _ ha, key _ hb, key _ hc, key _ hd]
  have h2 := tab_nth_pre (z := [0, 0]) rfl (fun a b c d => 1 + max4 a b c d) (R := R.take i ++ [q]) (E := R.drop (i + 1)) (m := i + 2) (by simp [hl])
  rw [← e] at h2
  have h3 : nth (deps R) (i + 2) = nth (deps (R.take i ++ [q])) (i + 2) := h2
  rw [h3]
  unfold deps
  rw [tab_snoc]
  have hl2 : (tab [0, 0] (fun a b c d => 1 + max4 a b c d) (R.take i)).length = i + 2 := by rw [tab_len, hl]; simp; omega
  rw [← hl2, nth_last]
theorem lvs_row {R : List Qd} {q : Qd} {i : Nat} (hq : R[i]? = some q) (G : Gd R) :
    nth (lvs R) (i + 2) = nth (lvs R) q.a + nth (lvs R) q.b + nth (lvs R) q.c + nth (lvs R) q.d := by
  have hi : i < R.length := (List.getElem?_eq_some_iff.mp hq).1
  have e : R = (R.take i ++ [q]) ++ R.drop (i + 1) := by
    rw [List.append_assoc, List.singleton_append]
    have : q = R[i] := (List.getElem?_eq_some_iff.mp hq).2.symm
    rw [this, ← List.drop_eq_getElem_cons hi, List.take_append_drop]
  obtain ⟨ha, hb, hc, hd⟩ := G.lt i q hq
  have hl : (R.take i).length = i := by rw [List.length_take]; omega
  have key : ∀ m, m < i + 2 → nth (lvs R) m = nth (lvs (R.take i)) m := fun m hm => by
    have := tab_nth_pre (z := [1, 1]) rfl (fun a b c d => a + b + c + d) (R := R.take i) (E := R.drop i) (m := m) (by rw [hl]; exact hm)
    rw [List.take_append_drop] at this
    exact this
  rw [key _ ha, key _ hb, key _ hc, key _ hd]
  have h2 := tab_nth_pre (z := [1, 1]) rfl (fun a b c d => a + b + c + d) (R := R.take i ++ [q]) (E := R.drop (i + 1)) (m := i + 2) (by simp [hl])
  rw [← e] at h2
  have h3 : nth (lvs R) (i + 2) = nth (lvs (R.take i ++ [q])) (i + 2) := h2
  rw [h3]
  unfold lvs
  rw [tab_snoc]
  have hl2 : (tab [1, 1] (fun a b c d => a + b + c + d) (R.take i)).length = i + 2 := by rw [tab_len, hl]; simp; omega
  rw [← hl2, nth_last]
theorem lvs_pos : ∀ (R : List Qd) (m : Nat), Gd R → m < R.length + 2 → 1 ≤ nth (lvs R) m := by
  intro R m G
  induction m using Nat.strongRecOn with
  | ind m ih =>
    intro hm
    by_cases h2 : m < 2
    · rw [lvs_low R h2]; exact Nat.le_refl _
    · have hi : m - 2 < R.length := by omega
      have hq : R[m - 2]? = some R[m - 2] := List.getElem?_eq_getElem hi
      have e := lvs_row hq G
      obtain ⟨ha, _, _, _⟩ := G.lt _ _ hq
      have := ih R[m - 2].a (by omega) (by omega)
      have e2 : m - 2 + 2 = m := by omega
      rw [e2] at e
      omega
end QF
/-! Plain mathematics A2: what the numbering does. -/
set_option maxHeartbeats 4000000
namespace QF
theorem deps_pre {R E : List Qd} {m : Nat} (h : m < R.length + 2) : nth (deps (R ++ E)) m = nth (deps R) m := tab_nth_pre (z := [0, 0]) rfl _ h
theorem lvs_pre {R E : List Qd} {m : Nat} (h : m < R.length + 2) : nth (lvs (R ++ E)) m = nth (lvs R) m := tab_nth_pre (z := [1, 1]) rfl _ h
theorem max4_le {a b c d n : Nat} (h1 : a ≤ n) (h2 : b ≤ n) (h3 : c ≤ n) (h4 : d ≤ n) : max4 a b c d ≤ n := by unfold max4; omega
theorem deps_new (R : List Qd) (q : Qd) : nth (deps (R ++ [q])) (R.length + 2) = 1 + max4 (nth (deps R) q.a) (nth (deps R) q.b) (nth (deps R) q.c) (nth (deps R) q.d) := by
  unfold deps
  rw [tab_snoc]
  have hl : (tab [0, 0] (fun a b c d => 1 + max4 a b c d) R).length = R.length + 2 := by rw [tab_len]; simp; omega
  rw [← hl, nth_last]
theorem lvs_new (R : List Qd) (q : Qd) : nth (lvs (R ++ [q])) (R.length + 2) = nth (lvs R) q.a + nth (lvs R) q.b + nth (lvs R) q.c + nth (lvs R) q.d := by
  unfold lvs
  rw [tab_snoc]
  have hl : (tab [1, 1] (fun a b c d => a + b + c + d) R).length = R.length + 2 := by rw [tab_len]; simp; omega
  rw [← hl, nth_last]

theorem num_ok : ∀ (k : Nat) (R : List Qd) (bs : List Bx) (r c : Int), Gd R → NumOk k R bs r c (num k R bs r c).1 (num k R bs r c).2
  | 0, R, bs, r, c, _ => by
    show NumOk 0 R bs r c (if (met bs r c 1).isEmpty then 0 else 1) R
    exact NumOk.plain (by split <;> omega)
  | k + 1, R, bs, r, c, G => by
    unfold num
    by_cases hs : stopsAt (met bs r c ((2 : Int) ^ (k + 1))) r c ((2 : Int) ^ (k + 1)) = true
    · simp only [hs, if_true]
      exact NumOk.plain (by split <;> omega)
    · simp only [hs]
      rw [if_neg (by simp)]
      -- the four quarters
      have hms : ∀ b ∈ met bs r c ((2 : Int) ^ (k + 1)), meets b r c ((2 : Int) ^ (k + 1)) = true ∧ has b r c ((2 : Int) ^ (k + 1)) = false := fun b hb => by
        refine ⟨(List.mem_filter.mp hb).2, ?_⟩
        cases h : has b r c ((2 : Int) ^ (k + 1)) with
        | false => rfl
        | true =>
          exfalso
          apply hs
          unfold stopsAt
          rw [Bool.or_eq_true]
          exact .inr (List.any_eq_true.mpr ⟨b, hb, h⟩)
      have hne : (met bs r c ((2 : Int) ^ (k + 1))).length ≥ 1 := by
        cases h : met bs r c ((2 : Int) ^ (k + 1)) with
        | nil => exfalso; apply hs; unfold stopsAt; rw [h]; rfl
        | cons x l => simp
      have hstep := sumC_step hms
      have hfil : sumC (k + 1) (met bs r c ((2 : Int) ^ (k + 1))) r c ≤ sumC (k + 1) bs r c := sumC_filter _ _ _ _ _
      revert hstep hfil hne
      generalize met bs r c ((2 : Int) ^ (k + 1)) = ms
      intro hne hstep hfil
      have N0 := num_ok k R ms r c G
      revert N0
      generalize num k R ms r c = x0
      intro N0
      have G0 := N0.gd G
      have N1 := num_ok k x0.2 ms r (c + (2 : Int) ^ k) G0
      revert N1
      generalize num k x0.2 ms r (c + (2 : Int) ^ k) = x1
      intro N1
      have G1 := N1.gd G0
      have N2 := num_ok k x1.2 ms (r + (2 : Int) ^ k) c G1
      revert N2
      generalize num k x1.2 ms (r + (2 : Int) ^ k) c = x2
      intro N2
      have G2 := N2.gd G1
      have N3 := num_ok k x2.2 ms (r + (2 : Int) ^ k) (c + (2 : Int) ^ k) G2
      revert N3
      generalize num k x2.2 ms (r + (2 : Int) ^ k) (c + (2 : Int) ^ k) = x3
      intro N3
      have G3 := N3.gd G2
      obtain ⟨⟨E0, e0, l0, s0⟩, lt0, _, d0, v0, o0⟩ := N0
      obtain ⟨⟨E1, e1, l1, s1⟩, lt1, _, d1, v1, o1⟩ := N1
      obtain ⟨⟨E2, e2, l2, s2⟩, lt2, _, d2, v2, o2⟩ := N2
      obtain ⟨⟨E3, e3, l3, s3⟩, lt3, _, d3, v3, o3⟩ := N3
      obtain ⟨m0, R0⟩ := x0
      obtain ⟨m1, R1⟩ := x1
      obtain ⟨m2, R2⟩ := x2
      obtain ⟨m3, R3⟩ := x3
      dsimp only at *
      have ord0 := o0 G
      have ord1 := o1 G0
      have ord2 := o2 G1
      have ord3 := o3 G2
      have len0 : R0.length = R.length + E0.length := by rw [e0, List.length_append]
      have len1 : R1.length = R0.length + E1.length := by rw [e1, List.length_append]
      have len2 : R2.length = R1.length + E2.length := by rw [e2, List.length_append]
      have len3 : R3.length = R2.length + E3.length := by rw [e3, List.length_append]
      -- if all four numbers lie below the last one, nothing was added
      have still : (m0 < R3.length + 1 ∧ m1 < R3.length + 1 ∧ m2 < R3.length + 1 ∧ m3 < R3.length + 1) → R3 = R := by
        rintro ⟨b0, b1, b2, b3⟩
        have z3 : E3 = [] := Decidable.byContradiction fun z => by have := l3 z; omega
        have q3 : R3 = R2 := by rw [e3, z3, List.append_nil]
        have z2 : E2 = [] := Decidable.byContradiction fun z => by have := l2 z; rw [q3] at b2; omega
        have q2 : R2 = R1 := by rw [e2, z2, List.append_nil]
        have z1 : E1 = [] := Decidable.byContradiction fun z => by have := l1 z; rw [q3, q2] at b1; omega
        have q1' : R1 = R0 := by rw [e1, z1, List.append_nil]
        have z0 : E0 = [] := Decidable.byContradiction fun z => by have := l0 z; rw [q3, q2, q1'] at b0; omega
        rw [q3, q2, q1', e0, z0, List.append_nil]
      unfold fin
      by_cases c0 : (⟨m0, m1, m2, m3⟩ : Qd) = q0
      · rw [if_pos c0]
        have : m0 = 0 ∧ m1 = 0 ∧ m2 = 0 ∧ m3 = 0 := by simpa [q0] using c0
        have := still (by omega)
        dsimp only
        rw [this]
        exact NumOk.plain (by omega)
      rw [if_neg c0]
      by_cases c1 : (⟨m0, m1, m2, m3⟩ : Qd) = q1
      · rw [if_pos c1]
        have h1 : m0 = 1 ∧ m1 = 1 ∧ m2 = 1 ∧ m3 = 1 := by simpa [q1] using c1
        dsimp only
        have z : R3 = R := by
          by_cases hz : R3.length = 0
          · have : R.length = 0 := by omega
            rw [List.length_eq_zero_iff.mp hz, List.length_eq_zero_iff.mp this]
          · exact still (by omega)
        rw [z]
        exact NumOk.plain (by omega)
      rw [if_neg c1]
      have depq : ∀ {m : Nat} {E : List Qd} {T : List Qd}, R3 = T ++ E → m < T.length + 2 → nth (deps R3) m = nth (deps T) m := fun h hm => by rw [h]; exact deps_pre hm
      have lvq : ∀ {m : Nat} {E : List Qd} {T : List Qd}, R3 = T ++ E → m < T.length + 2 → nth (lvs R3) m = nth (lvs T) m := fun h hm => by rw [h]; exact lvs_pre hm
      have p2 : R3 = R2 ++ E3 := e3
      have p1 : R3 = R1 ++ (E2 ++ E3) := by rw [e3, e2, List.append_assoc]
      have p0 : R3 = R0 ++ (E1 ++ (E2 ++ E3)) := by rw [p1, e1, List.append_assoc]
      have pR : R3 = R ++ (E0 ++ (E1 ++ (E2 ++ E3))) := by rw [p0, e0, List.append_assoc]
      have dd0 := depq p0 lt0
      have dd1 := depq p1 lt1
      have dd2 := depq p2 lt2
      have vv0 := lvq p0 lt0
      have vv1 := lvq p1 lt1
      have vv2 := lvq p2 lt2
      cases hi : idx R3 ⟨m0, m1, m2, m3⟩ with
      | some i =>
        have hq := idx_some hi
        have hlt := G3.lt i _ hq
        have hil : i < R3.length := (List.getElem?_eq_some_iff.mp hq).1
        dsimp only at hlt
        have z := still (by omega)
        have dr := deps_row hq G3
        have lr := lvs_row hq G3
        dsimp only at dr lr ⊢
        rw [dd0, dd1, dd2] at dr
        rw [vv0, vv1, vv2] at lr
        rw [z] at dr lr hil ⊢
        rw [z] at d3 v3
        have d0' := max4_le d0 d1 d2 d3
        refine ⟨⟨[], by simp, fun h => absurd rfl h, Nat.zero_le _⟩, by omega, id, ?_, ?_, fun _ E => .low _ _ _ (by omega)⟩
        · rw [dr]; omega
        · rw [lr]; omega
      | none =>
        dsimp only
        have hn := idx_none hi
        have dr := deps_new R3 ⟨m0, m1, m2, m3⟩
        have lr := lvs_new R3 ⟨m0, m1, m2, m3⟩
        dsimp only at dr lr
        rw [dd0, dd1, dd2] at dr
        rw [vv0, vv1, vv2] at lr
        have d0' := max4_le d0 d1 d2 d3
        refine ⟨⟨E0 ++ (E1 ++ (E2 ++ E3)) ++ [⟨m0, m1, m2, m3⟩], by rw [pR]; simp [List.append_assoc], fun _ => by simp, ?_⟩, by simp, fun _ => G3.snoc (by show m0 < _; omega) (by show m1 < _; omega) (by show m2 < _; omega) (by show m3 < _; omega) hn c0 c1, ?_, ?_, ?_⟩
        · simp only [List.length_append, List.length_singleton]
          omega
        · rw [dr]; omega
        · rw [lr]; omega
        · intro _ E
          have f0 := ord0 (E1 ++ (E2 ++ E3) ++ [⟨m0, m1, m2, m3⟩] ++ E)
          have f1 := ord1 (E2 ++ E3 ++ [⟨m0, m1, m2, m3⟩] ++ E)
          have f2 := ord2 (E3 ++ [⟨m0, m1, m2, m3⟩] ++ E)
          have f3 := ord3 ([⟨m0, m1, m2, m3⟩] ++ E)
          have g0 : R0 ++ (E1 ++ (E2 ++ E3) ++ [⟨m0, m1, m2, m3⟩] ++ E) = R3 ++ [⟨m0, m1, m2, m3⟩] ++ E := by rw [p0]; simp [List.append_assoc]
          have g1 : R1 ++ (E2 ++ E3 ++ [⟨m0, m1, m2, m3⟩] ++ E) = R3 ++ [⟨m0, m1, m2, m3⟩] ++ E := by rw [p1]; simp [List.append_assoc]
          have g2 : R2 ++ (E3 ++ [⟨m0, m1, m2, m3⟩] ++ E) = R3 ++ [⟨m0, m1, m2, m3⟩] ++ E := by rw [p2]; simp [List.append_assoc]
          have g3 : R3 ++ ([⟨m0, m1, m2, m3⟩] ++ E) = R3 ++ [⟨m0, m1, m2, m3⟩] ++ E := by simp [List.append_assoc]
          rw [g0] at f0
          rw [g1] at f1
          rw [g2] at f2
          rw [g3] at f3
          rw [show (R3 ++ [(⟨m0, m1, m2, m3⟩ : Qd)]).length = R3.length + 1 from by simp]
          exact .row k R.length R0.length R1.length R2.length R3.length ⟨m0, m1, m2, m3⟩ (by simp) f0 f1 f2 f3 (by omega)
termination_by k => k

/-! ### one box is gone down for at most 133 squares -/
/-- how many rows (or columns) of h from a on lie among n from x on -/
def ov (a h x n : Int) : Int := max 0 (min (a + h) (x + n) - max a x)
theorem ov_add (a h x n : Int) (hn : 0 ≤ n) : ov a h x (n + n) = ov a h x n + ov a h (x + n) n := by unfold ov; omega
theorem ov_nonneg (a h x n : Int) : 0 ≤ ov a h x n := by unfold ov; omega
theorem ov_le (a h x n : Int) (hh : 0 ≤ h) : ov a h x n ≤ h := by unfold ov; omega
def ar (a h a' h' x y n : Int) : Int := ov a h x n * ov a' h' y n
theorem ar_add (a h a' h' x y n : Int) (hn : 0 ≤ n) : ar a h a' h' x y (n + n) = ar a h a' h' x y n + ar a h a' h' x (y + n) n + ar a h a' h' (x + n) y n + ar a h a' h' (x + n) (y + n) n := by
  unfold ar
  rw [ov_add a h x n hn, ov_add a' h' y n hn]
  rw [Int.add_mul, Int.mul_add, Int.mul_add]
  omega
theorem ar_nonneg (a h a' h' x y n : Int) : 0 ≤ ar a h a' h' x y n := Int.mul_nonneg (ov_nonneg ..) (ov_nonneg ..)
theorem two_pow_succ (k : Nat) : (2 : Int) ^ (k + 1) = (2 : Int) ^ k + (2 : Int) ^ k := by rw [Int.pow_succ]; omega
theorem two_pow_pos (k : Nat) : 0 < (2 : Int) ^ k := Int.pow_pos (by decide)
/-- how many squares of size j in the square of size d + j meet the box -/
def lev : Nat → Nat → Bx → Int → Int → Nat
  | 0, j, b, r, c => if meets b r c ((2 : Int) ^ j) = true then 1 else 0
  | d + 1, j, b, r, c => lev d j b r c + lev d j b r (c + (2 : Int) ^ (d + j)) + lev d j b (r + (2 : Int) ^ (d + j)) c + lev d j b (r + (2 : Int) ^ (d + j)) (c + (2 : Int) ^ (d + j))
theorem lev_area (j : Nat) (b : Bx) : ∀ (d : Nat) (r c : Int), (lev d j b r c : Int) * ((2 : Int) ^ j * (2 : Int) ^ j) ≤
    ar (b.r - (2 : Int) ^ j + 1) (b.h + 2 * (2 : Int) ^ j - 2) (b.c - (2 : Int) ^ j + 1) (b.w + 2 * (2 : Int) ^ j - 2) r c ((2 : Int) ^ (d + j))
  | 0, r, c => by
    unfold lev
    by_cases h : meets b r c ((2 : Int) ^ j) = true
    · rw [if_pos h]
      rw [meets_iff] at h
      have hp := two_pow_pos j
      rw [Nat.zero_add]
      unfold ar
      have e1 : ov (b.r - (2 : Int) ^ j + 1) (b.h + 2 * (2 : Int) ^ j - 2) r ((2 : Int) ^ j) = (2 : Int) ^ j := by
        generalize (2 : Int) ^ j = s at *
        unfold ov
        omega
      have e2 : ov (b.c - (2 : Int) ^ j + 1) (b.w + 2 * (2 : Int) ^ j - 2) c ((2 : Int) ^ j) = (2 : Int) ^ j := by
        generalize (2 : Int) ^ j = s at *
        unfold ov
        omega
      rw [e1, e2]
      simp
    · rw [if_neg h]
      rw [show ((0 : Nat) : Int) * ((2 : Int) ^ j * (2 : Int) ^ j) = 0 by simp]
      exact ar_nonneg ..
  | d + 1, r, c => by
    have h1 := lev_area j b d r c
    have h2 := lev_area j b d r (c + (2 : Int) ^ (d + j))
    have h3 := lev_area j b d (r + (2 : Int) ^ (d + j)) c
    have h4 := lev_area j b d (r + (2 : Int) ^ (d + j)) (c + (2 : Int) ^ (d + j))
    have e : d + 1 + j = (d + j) + 1 := by omega
    rw [e, two_pow_succ, ar_add _ _ _ _ _ _ _ (Int.le_of_lt (two_pow_pos _))]
    unfold lev
    rw [Int.natCast_add, Int.natCast_add, Int.natCast_add, Int.add_mul, Int.add_mul, Int.add_mul]
    omega
def levSum (k : Nat) (b : Bx) (r c : Int) : Nat := ((List.range k).map fun j => lev (k - 1 - j) (j + 1) b r c).sum
theorem sum_map_add4 {f g h i e : Nat → Nat} : ∀ {l : List Nat}, (∀ j ∈ l, e j = f j + g j + h j + i j) → (l.map e).sum = (l.map f).sum + (l.map g).sum + (l.map h).sum + (l.map i).sum
  | [], _ => rfl
  | x :: l, H => by
    have ih := sum_map_add4 (l := l) fun j hj => H j (List.mem_cons_of_mem _ hj)
    have hx := H x (List.mem_cons_self ..)
    simp only [List.map_cons, List.sum_cons]
    omega
theorem cst_lev (b : Bx) : ∀ (k : Nat) (r c : Int), cst k b r c ≤ levSum k b r c
  | 0, _, _ => Nat.zero_le _
  | k + 1, r, c => by
    have h1 := cst_lev b k r c
    have h2 := cst_lev b k r (c + (2 : Int) ^ k)
    have h3 := cst_lev b k (r + (2 : Int) ^ k) c
    have h4 := cst_lev b k (r + (2 : Int) ^ k) (c + (2 : Int) ^ k)
    have e : levSum (k + 1) b r c = (levSum k b r c + levSum k b r (c + (2 : Int) ^ k) + levSum k b (r + (2 : Int) ^ k) c + levSum k b (r + (2 : Int) ^ k) (c + (2 : Int) ^ k)) + lev 0 (k + 1) b r c := by
      unfold levSum
      rw [List.range_succ, List.map_append, List.sum_append]
      congr 1
      · apply sum_map_add4
        intro j hj
        have hj' : j < k := List.mem_range.mp hj
        have e1 : k + 1 - 1 - j = (k - 1 - j) + 1 := by omega
        have e2 : k - 1 - j + (j + 1) = k := by omega
        rw [e1]
        show lev (k - 1 - j) (j + 1) b r c + _ + _ + _ = _
        rw [e2]
      · simp
    rw [e]
    unfold cst
    split
    · rename_i h
      have : meets b r c ((2 : Int) ^ (k + 1)) = true := (Bool.and_eq_true_iff.mp h).1
      have : lev 0 (k + 1) b r c = 1 := by unfold lev; rw [if_pos this]
      omega
    · exact Nat.zero_le _
def lim (j : Nat) : Nat := (7 + 2 * 2 ^ (j + 1)) ^ 2 / (2 ^ (j + 1)) ^ 2
theorem lev_lim {b : Bx} (h0 : 0 ≤ b.h) (h9 : b.h ≤ 9) (w0 : 0 ≤ b.w) (w9 : b.w ≤ 9) (d j : Nat) (r c : Int) : lev d (j + 1) b r c ≤ lim j := by
  have h := lev_area (j + 1) b d r c
  unfold lim
  have hp := two_pow_pos (j + 1)
  have ep : ((2 ^ (j + 1) : Nat) : Int) = (2 : Int) ^ (j + 1) := by simp
  have hp2 : 0 < 2 ^ (j + 1) := Nat.pos_of_ne_zero (by simp)
  rw [Nat.le_div_iff_mul_le (Nat.pow_pos hp2)]
  have two : 2 ≤ (2 : Int) ^ (j + 1) := by rw [two_pow_succ]; have := two_pow_pos j; omega
  rw [← ep] at h hp two
  revert h
  generalize 2 ^ (j + 1) = s at *
  intro h
  have b1 := ov_le (b.r - (s : Int) + 1) (b.h + 2 * (s : Int) - 2) r ((2 : Int) ^ (d + (j + 1))) (by omega)
  have b2 := ov_le (b.c - (s : Int) + 1) (b.w + 2 * (s : Int) - 2) c ((2 : Int) ^ (d + (j + 1))) (by omega)
  have n1 := ov_nonneg (b.r - (s : Int) + 1) (b.h + 2 * (s : Int) - 2) r ((2 : Int) ^ (d + (j + 1)))
  have n2 := ov_nonneg (b.c - (s : Int) + 1) (b.w + 2 * (s : Int) - 2) c ((2 : Int) ^ (d + (j + 1)))
  have hm : ar (b.r - (s : Int) + 1) (b.h + 2 * (s : Int) - 2) (b.c - (s : Int) + 1) (b.w + 2 * (s : Int) - 2) r c ((2 : Int) ^ (d + (j + 1))) ≤ (7 + 2 * (s : Int)) * (7 + 2 * (s : Int)) := by
    unfold ar
    exact Int.mul_le_mul (by omega) (by omega) n2 (by omega)
  have hh := Int.le_trans h hm
  rw [Nat.pow_two, Nat.pow_two]
  have : ((lev d (j + 1) b r c * (s * s) : Nat) : Int) ≤ (((7 + 2 * s) * (7 + 2 * s) : Nat) : Int) := by
    rw [Int.natCast_mul, Int.natCast_mul, Int.natCast_mul, Int.natCast_add, Int.natCast_mul]
    exact hh
  exact Int.ofNat_le.mp this
theorem sum_le_sum {f g : Nat → Nat} : ∀ {l : List Nat}, (∀ j ∈ l, f j ≤ g j) → (l.map f).sum ≤ (l.map g).sum
  | [], _ => Nat.le_refl _
  | x :: l, H => by
    have ih := sum_le_sum (l := l) fun j hj => H j (List.mem_cons_of_mem _ hj)
    have hx := H x (List.mem_cons_self ..)
    simp only [List.map_cons, List.sum_cons]
    omega
theorem cst_small {b : Bx} (h0 : 0 ≤ b.h) (h9 : b.h ≤ 9) (w0 : 0 ≤ b.w) (w9 : b.w ≤ 9) {k : Nat} (hk : k ≤ 12) (r c : Int) : cst k b r c ≤ 89 := by
  refine Nat.le_trans (cst_lev b k r c) ?_
  have h1 : levSum k b r c ≤ ((List.range k).map lim).sum := sum_le_sum fun j _ => lev_lim h0 h9 w0 w9 _ _ _ _
  have h2 : ∀ k, k ≤ 12 → ((List.range k).map lim).sum ≤ 89 := by decide
  exact Nat.le_trans h1 (h2 k hk)
/-- a box that is itself a square of the floor -/
def Aln (b : Bx) : Prop := ∃ (s : Nat) (x y : Int), b.h = (2 : Int) ^ s ∧ b.w = (2 : Int) ^ s ∧ b.r = x * (2 : Int) ^ s ∧ b.c = y * (2 : Int) ^ s
theorem aln_small {s k : Nat} (h : k ≤ s) {x u : Int} (h1 : x * (2 : Int) ^ s < u * (2 : Int) ^ k + (2 : Int) ^ k) (h2 : u * (2 : Int) ^ k < x * (2 : Int) ^ s + (2 : Int) ^ s) :
    x * (2 : Int) ^ s ≤ u * (2 : Int) ^ k ∧ u * (2 : Int) ^ k + (2 : Int) ^ k ≤ x * (2 : Int) ^ s + (2 : Int) ^ s := by
  obtain ⟨d, rfl⟩ : ∃ d, s = k + d := ⟨s - k, by omega⟩
  have hp := two_pow_pos k
  rw [Int.pow_add] at h1 h2 ⊢
  have e1 : x * ((2 : Int) ^ k * (2 : Int) ^ d) = (x * (2 : Int) ^ d) * (2 : Int) ^ k := by rw [Int.mul_comm ((2 : Int) ^ k), Int.mul_assoc]
  have e2 : (2 : Int) ^ k * (2 : Int) ^ d = (2 : Int) ^ d * (2 : Int) ^ k := Int.mul_comm ..
  rw [e1] at h1 h2 ⊢
  rw [e2] at h2 ⊢
  clear e1 e2
  generalize (2 : Int) ^ d = t at *
  generalize (2 : Int) ^ k = p at *
  have f1 : u * p + p = (u + 1) * p := by rw [Int.add_mul, Int.one_mul]
  have f2 : x * t * p + t * p = (x * t + t) * p := by rw [Int.add_mul]
  rw [f1] at h1 ⊢
  rw [f2] at h2 ⊢
  have g1 : x * t < u + 1 := Int.lt_of_mul_lt_mul_right h1 (Int.le_of_lt hp)
  have g2 : u < x * t + t := Int.lt_of_mul_lt_mul_right h2 (Int.le_of_lt hp)
  exact ⟨Int.mul_le_mul_of_nonneg_right (by omega) (Int.le_of_lt hp), Int.mul_le_mul_of_nonneg_right (by omega) (Int.le_of_lt hp)⟩
/-- an aligned square that is no less lies in one of the halves -/
theorem aln_half {s k : Nat} (h : s ≤ k) {x u : Int} : x * (2 : Int) ^ s + (2 : Int) ^ s ≤ u * (2 : Int) ^ (k + 1) + (2 : Int) ^ k ∨ u * (2 : Int) ^ (k + 1) + (2 : Int) ^ k ≤ x * (2 : Int) ^ s := by
  obtain ⟨d, rfl⟩ : ∃ d, k = s + d := ⟨k - s, by omega⟩
  have hp := two_pow_pos s
  rw [two_pow_succ, Int.pow_add]
  generalize (2 : Int) ^ d = t at *
  generalize (2 : Int) ^ s = p at *
  have f1 : x * p + p = (x + 1) * p := by rw [Int.add_mul, Int.one_mul]
  have f2 : u * (p * t + p * t) + p * t = (u * (t + t) + t) * p := by
    rw [Int.add_mul, Int.mul_assoc, Int.add_mul, Int.mul_comm t p]
  rw [f1, f2]
  by_cases hc : x + 1 ≤ u * (t + t) + t
  · exact .inl (Int.mul_le_mul_of_nonneg_right hc (Int.le_of_lt hp))
  · exact .inr (Int.mul_le_mul_of_nonneg_right (by omega) (Int.le_of_lt hp))
theorem cst_nomeet {k : Nat} {b : Bx} {r c : Int} (h : meets b r c ((2 : Int) ^ k) = false) : cst k b r c = 0 := by
  cases k with
  | zero => rfl
  | succ k =>
    unfold cst
    rw [h]
    rfl
theorem cst_aln {b : Bx} (hb : Aln b) : ∀ (k : Nat) (u v : Int), cst k b (u * (2 : Int) ^ k) (v * (2 : Int) ^ k) ≤ k
  | 0, _, _ => Nat.le_refl _
  | k + 1, u, v => by
    obtain ⟨s, x, y, e1, e2, e3, e4⟩ := id hb
    unfold cst
    split
    · rename_i h
      obtain ⟨hm, hh⟩ := Bool.and_eq_true_iff.mp h
      rw [meets_iff] at hm
      have hh' : ¬ has b (u * (2 : Int) ^ (k + 1)) (v * (2 : Int) ^ (k + 1)) ((2 : Int) ^ (k + 1)) = true := by
        intro z
        rw [z] at hh
        cases hh
      rw [has_iff] at hh'
      rw [e1, e2, e3, e4] at hm hh'
      have hsk : s ≤ k := by
        apply Decidable.byContradiction
        intro hsk
        have a1 := aln_small (k := k + 1) (s := s) (by omega) hm.1 hm.2.1
        have a2 := aln_small (k := k + 1) (s := s) (by omega) hm.2.2.2 hm.2.2.1
        exact hh' ⟨a1.1, a1.2, a2.1, a2.2⟩
      have p2 := two_pow_succ k
      have hp := two_pow_pos k
      have hps := two_pow_pos s
      have A1 := aln_half (x := x) (u := u) hsk
      have A2 := aln_half (x := y) (u := v) hsk
      have c1 : u * (2 : Int) ^ (k + 1) = (2 * u) * (2 : Int) ^ k := by rw [p2, Int.mul_add, Int.mul_comm 2 u, Int.mul_assoc, Int.two_mul, Int.mul_add]
      have c2 : v * (2 : Int) ^ (k + 1) = (2 * v) * (2 : Int) ^ k := by rw [p2, Int.mul_add, Int.mul_comm 2 v, Int.mul_assoc, Int.two_mul, Int.mul_add]
      have c3 : u * (2 : Int) ^ (k + 1) + (2 : Int) ^ k = (2 * u + 1) * (2 : Int) ^ k := by rw [c1, Int.add_mul (2 * u), Int.one_mul]
      have c4 : v * (2 : Int) ^ (k + 1) + (2 : Int) ^ k = (2 * v + 1) * (2 : Int) ^ k := by rw [c2, Int.add_mul (2 * v), Int.one_mul]
      have i1 := cst_aln hb k (2 * u) (2 * v)
      have i2 := cst_aln hb k (2 * u) (2 * v + 1)
      have i3 := cst_aln hb k (2 * u + 1) (2 * v)
      have i4 := cst_aln hb k (2 * u + 1) (2 * v + 1)
      rw [← c1, ← c2] at i1
      rw [← c1, ← c4] at i2
      rw [← c3, ← c2] at i3
      rw [← c3, ← c4] at i4
      -- only one quarter meets it
      have nm : ∀ r c, ¬ (b.r < r + (2 : Int) ^ k ∧ r < b.r + b.h ∧ c < b.c + b.w ∧ b.c < c + (2 : Int) ^ k) → cst k b r c = 0 := fun r c hn => cst_nomeet (by
        cases hz : meets b r c ((2 : Int) ^ k) with
        | false => rfl
        | true => exact absurd (meets_iff.mp hz) hn)
      have n1 := nm (u * (2 : Int) ^ (k + 1)) (v * (2 : Int) ^ (k + 1))
      have n2 := nm (u * (2 : Int) ^ (k + 1)) (v * (2 : Int) ^ (k + 1) + (2 : Int) ^ k)
      have n3 := nm (u * (2 : Int) ^ (k + 1) + (2 : Int) ^ k) (v * (2 : Int) ^ (k + 1))
      have n4 := nm (u * (2 : Int) ^ (k + 1) + (2 : Int) ^ k) (v * (2 : Int) ^ (k + 1) + (2 : Int) ^ k)
      rw [e1, e2, e3, e4] at n1 n2 n3 n4
      generalize u * (2 : Int) ^ (k + 1) = U at *
      generalize v * (2 : Int) ^ (k + 1) = V at *
      generalize x * (2 : Int) ^ s = X at *
      generalize y * (2 : Int) ^ s = Y at *
      generalize (2 : Int) ^ s = S at *
      generalize (2 : Int) ^ k = T at *
      rcases A1 with A1 | A1 <;> rcases A2 with A2 | A2
      · rw [n2 (by omega), n3 (by omega), n4 (by omega)]; omega
      · rw [n1 (by omega), n3 (by omega), n4 (by omega)]; omega
      · rw [n1 (by omega), n2 (by omega), n4 (by omega)]; omega
      · rw [n1 (by omega), n2 (by omega), n3 (by omega)]; omega
    · exact Nat.zero_le _
/-- what the law's boxes are: squares of the floor, or at most nine by nine -/
def BxOk (b : Bx) : Prop := Aln b ∨ (0 ≤ b.h ∧ b.h ≤ 9 ∧ 0 ≤ b.w ∧ b.w ≤ 9)
theorem cst_ok {b : Bx} (h : BxOk b) {k : Nat} (hk : k ≤ 12) : cst k b 0 0 ≤ 89 := by
  rcases h with h | ⟨h0, h9, w0, w9⟩
  · have := cst_aln h k 0 0
    rw [Int.zero_mul] at this
    omega
  · exact cst_small h0 h9 w0 w9 hk 0 0
theorem sumC_ok {k : Nat} (hk : k ≤ 12) : ∀ {bs : List Bx}, (∀ b ∈ bs, BxOk b) → sumC k bs 0 0 ≤ 89 * bs.length
  | [], _ => Nat.le_refl _
  | b :: bs, h => by
    have ih := sumC_ok hk (bs := bs) fun x hx => h x (List.mem_cons_of_mem _ hx)
    have := cst_ok (h b (List.mem_cons_self ..)) hk
    unfold sumC at *
    simp only [List.map_cons, List.sum_cons, List.length_cons]
    omega
/-- a shape as the law makes it -/
structure Shp (n top : Nat) (R : List Qd) : Prop where
  n12 : n ≤ 12
  gd : Gd R
  lt : top < R.length + 2
  dep : nth (deps R) top ≤ n
  lv : nth (lvs R) top ≤ 2000
  few : R.length ≤ 445
  ord : Ord R n top 0 R.length
theorem shp_of {n : Nat} (hn : n ≤ 12) {bs : List Bx} (hb : ∀ b ∈ bs, BxOk b) (h5 : bs.length ≤ 5) : Shp n (num n [] bs 0 0).1 (num n [] bs 0 0).2 := by
  have N := num_ok n [] bs 0 0 Gd.nil
  have hs := sumC_ok hn hb
  obtain ⟨⟨E, e, _, hl⟩, lt, g, d, v, o⟩ := N
  have o' := o Gd.nil []
  rw [List.append_nil] at o'
  have e2 : (num n [] bs 0 0).2.length = E.length := by rw [e, List.nil_append]
  exact ⟨hn, g Gd.nil, lt, d, by omega, by omega, o'⟩
end QF
/-! Plain mathematics B: the leaves of a shape, ranks, shares. -/
set_option maxHeartbeats 4000000
namespace QF
structure Lf where
  ad : List Nat
  r : Int
  c : Int
  s : Int
  full : Bool
def lvg (R : List Qd) : Nat → Nat → Int → Int → List Nat → List Lf
  | 0, m, r, c, ad => if m < 2 then [⟨ad, r, c, (2 : Int) ^ 0, m == 1⟩] else []
  | k + 1, m, r, c, ad => if m < 2 then [⟨ad, r, c, (2 : Int) ^ (k + 1), m == 1⟩] else
    match R[m - 2]? with
    | none => []
    | some q => lvg R k q.a r c (ad ++ [48]) ++ lvg R k q.b r (c + (2 : Int) ^ k) (ad ++ [49]) ++ lvg R k q.c (r + (2 : Int) ^ k) c (ad ++ [50]) ++ lvg R k q.d (r + (2 : Int) ^ k) (c + (2 : Int) ^ k) (ad ++ [51])
theorem lvg_low {R : List Qd} {k m : Nat} {r c : Int} {ad : List Nat} (h : m < 2) : lvg R k m r c ad = [⟨ad, r, c, (2 : Int) ^ k, m == 1⟩] := by
  cases k <;> (unfold lvg; rw [if_pos h])
theorem lvg_row {R : List Qd} {k i : Nat} {q : Qd} {r c : Int} {ad : List Nat} (h : R[i]? = some q) : lvg R (k + 1) (i + 2) r c ad =
    lvg R k q.a r c (ad ++ [48]) ++ lvg R k q.b r (c + (2 : Int) ^ k) (ad ++ [49]) ++ lvg R k q.c (r + (2 : Int) ^ k) c (ad ++ [50]) ++ lvg R k q.d (r + (2 : Int) ^ k) (c + (2 : Int) ^ k) (ad ++ [51]) := by
  rw [lvg, if_neg (by omega), show i + 2 - 2 = i by omega, h]
/-- what stands at a number: a plain one, or a row whose numbers lie less deep -/
theorem down {R : List Qd} (G : Gd R) {k m : Nat} (hm : m < R.length + 2) (hd : nth (deps R) m ≤ k) (h2 : ¬ m < 2) :
    ∃ (k' i : Nat) (q : Qd), k = k' + 1 ∧ m = i + 2 ∧ R[i]? = some q ∧ (q.a < R.length + 2 ∧ nth (deps R) q.a ≤ k') ∧ (q.b < R.length + 2 ∧ nth (deps R) q.b ≤ k') ∧ (q.c < R.length + 2 ∧ nth (deps R) q.c ≤ k') ∧ (q.d < R.length + 2 ∧ nth (deps R) q.d ≤ k') := by
  have hi : m - 2 < R.length := by omega
  have hq : R[m - 2]? = some R[m - 2] := List.getElem?_eq_getElem hi
  have e := deps_row hq G
  have e2 : m - 2 + 2 = m := by omega
  rw [e2] at e
  obtain ⟨ha, hb, hc, hd'⟩ := G.lt _ _ hq
  refine ⟨k - 1, m - 2, R[m - 2], ?_, by omega, hq, ⟨by omega, ?_⟩, ⟨by omega, ?_⟩, ⟨by omega, ?_⟩, ⟨by omega, ?_⟩⟩ <;> (unfold max4 at e; omega)
theorem tree_ind {R : List Qd} (G : Gd R) {P : Nat → Nat → Int → Int → List Nat → List Lf → Prop}
    (leaf : ∀ (k m : Nat) (r c : Int) (ad : List Nat), m < 2 → P k m r c ad [⟨ad, r, c, (2 : Int) ^ k, m == 1⟩])
    (node : ∀ (k i : Nat) (q : Qd) (r c : Int) (ad : List Nat) (l0 l1 l2 l3 : List Lf), R[i]? = some q → P k q.a r c (ad ++ [48]) l0 → P k q.b r (c + (2 : Int) ^ k) (ad ++ [49]) l1 → P k q.c (r + (2 : Int) ^ k) c (ad ++ [50]) l2 →
      P k q.d (r + (2 : Int) ^ k) (c + (2 : Int) ^ k) (ad ++ [51]) l3 → P (k + 1) (i + 2) r c ad (l0 ++ l1 ++ l2 ++ l3)) :
    ∀ (k m : Nat) (r c : Int) (ad : List Nat), m < R.length + 2 → nth (deps R) m ≤ k → P k m r c ad (lvg R k m r c ad) := by
  intro k
  induction k with
  | zero =>
    intro m r c ad hm hd
    by_cases h2 : m < 2
    · rw [lvg_low h2]; exact leaf _ _ _ _ _ h2
    · obtain ⟨k', _, _, h, _⟩ := down G hm hd h2
      omega
  | succ k ih =>
    intro m r c ad hm hd
    by_cases h2 : m < 2
    · rw [lvg_low h2]; exact leaf _ _ _ _ _ h2
    · obtain ⟨k', i, q, hk, hmi, hq, ⟨ha, ha'⟩, ⟨hb, hb'⟩, ⟨hc, hc'⟩, ⟨hd1, hd2⟩⟩ := down G hm hd h2
      have : k' = k := by omega
      subst this
      subst hmi
      rw [lvg_row hq]
      exact node _ _ _ _ _ _ _ _ _ _ hq (ih _ _ _ _ ha ha') (ih _ _ _ _ hb hb') (ih _ _ _ _ hc hc') (ih _ _ _ _ hd1 hd2)
section
variable {R : List Qd} (G : Gd R)
include G
theorem lvg_len : ∀ (k m : Nat) (r c : Int) (ad : List Nat), m < R.length + 2 → nth (deps R) m ≤ k → (lvg R k m r c ad).length = nth (lvs R) m := by
  refine tree_ind G (P := fun k m r c ad L => L.length = nth (lvs R) m) ?_ ?_
  · intro k m r c ad h
    rw [lvs_low R h]
    rfl
  · intro k i q r c ad l0 l1 l2 l3 hq h0 h1 h2 h3
    rw [lvs_row hq G, List.length_append, List.length_append, List.length_append, h0, h1, h2, h3]
end
/-! ### squares by addresses -/
def sqStep (x : Int × Int × Int) (d : Nat) : Int × Int × Int := (x.1 + x.2.2 / 2 * (((d - 48) / 2 : Nat) : Int), x.2.1 + x.2.2 / 2 * (((d - 48) % 2 : Nat) : Int), x.2.2 / 2)
def sqOf (n : Nat) (ad : List Nat) : Int × Int × Int := ad.foldl sqStep (0, 0, (2 : Int) ^ n)
theorem half_pow (k : Nat) : (2 : Int) ^ (k + 1) / 2 = (2 : Int) ^ k := by rw [Int.pow_succ]; omega
theorem sq48 (r c : Int) (k : Nat) : sqStep (r, c, (2 : Int) ^ (k + 1)) 48 = (r, c, (2 : Int) ^ k) := by
  unfold sqStep
  simp only [half_pow]
  simp
theorem sq49 (r c : Int) (k : Nat) : sqStep (r, c, (2 : Int) ^ (k + 1)) 49 = (r, c + (2 : Int) ^ k, (2 : Int) ^ k) := by
  unfold sqStep
  simp only [half_pow]
  simp
theorem sq50 (r c : Int) (k : Nat) : sqStep (r, c, (2 : Int) ^ (k + 1)) 50 = (r + (2 : Int) ^ k, c, (2 : Int) ^ k) := by
  unfold sqStep
  simp only [half_pow]
  simp
theorem sq51 (r c : Int) (k : Nat) : sqStep (r, c, (2 : Int) ^ (k + 1)) 51 = (r + (2 : Int) ^ k, c + (2 : Int) ^ k, (2 : Int) ^ k) := by
  unfold sqStep
  simp only [half_pow]
  simp
/-- a leaf lies in its square, its address goes there -/
structure In (k : Nat) (r c : Int) (ad : List Nat) (l : Lf) : Prop where
  path : ∃ suf, l.ad = ad ++ suf ∧ suf.length ≤ k ∧ (∀ x ∈ suf, 48 ≤ x ∧ x < 52) ∧ suf.foldl sqStep (r, c, (2 : Int) ^ k) = (l.r, l.c, l.s)
  pos : 1 ≤ l.s
  r0 : r ≤ l.r
  r1 : l.r + l.s ≤ r + (2 : Int) ^ k
  c0 : c ≤ l.c
  c1 : l.c + l.s ≤ c + (2 : Int) ^ k
theorem In.up {k : Nat} {r c r' c' : Int} {ad : List Nat} {d : Nat} {l : Lf} (h : In k r' c' (ad ++ [d]) l) (h48 : 48 ≤ d) (h52 : d < 52) (e : sqStep (r, c, (2 : Int) ^ (k + 1)) d = (r', c', (2 : Int) ^ k))
    (r0 : r ≤ r') (r1 : r' + (2 : Int) ^ k ≤ r + (2 : Int) ^ (k + 1)) (c0 : c ≤ c') (c1 : c' + (2 : Int) ^ k ≤ c + (2 : Int) ^ (k + 1)) : In (k + 1) r c ad l := by
  obtain ⟨⟨suf, a1, a2, a3, a4⟩, b, b1, b2, b3, b4⟩ := h
  refine ⟨⟨d :: suf, by rw [a1]; simp, by simp; omega, fun x hx => ?_, by rw [List.foldl_cons, e, a4]⟩, b, by omega, by omega, by omega, by omega⟩
  rcases List.mem_cons.mp hx with rfl | hx
  · exact ⟨h48, h52⟩
  · exact a3 x hx
section
variable {R : List Qd} (G : Gd R)
include G
theorem lvg_in : ∀ (k m : Nat) (r c : Int) (ad : List Nat), m < R.length + 2 → nth (deps R) m ≤ k → ∀ l ∈ lvg R k m r c ad, In k r c ad l := by
  refine tree_ind G (P := fun k m r c ad L => ∀ l ∈ L, In k r c ad l) ?_ ?_
  · intro k m r c ad h l hl
    rw [List.mem_singleton] at hl
    subst hl
    have := two_pow_pos k
    exact ⟨⟨[], by simp, by simp, by simp, rfl⟩, by show 1 ≤ (2 : Int) ^ k; omega, Int.le_refl _, Int.le_refl _, Int.le_refl _, Int.le_refl _⟩
  · intro k i q r c ad l0 l1 l2 l3 hq h0 h1 h2 h3 l hl
    have p := two_pow_succ k
    have pp := two_pow_pos k
    rcases List.mem_append.mp hl with hl | hl
    · rcases List.mem_append.mp hl with hl | hl
      · rcases List.mem_append.mp hl with hl | hl
        · exact (h0 l hl).up (by omega) (by omega) (sq48 ..) (by omega) (by omega) (by omega) (by omega)
        · exact (h1 l hl).up (by omega) (by omega) (sq49 ..) (by omega) (by omega) (by omega) (by omega)
      · exact (h2 l hl).up (by omega) (by omega) (sq50 ..) (by omega) (by omega) (by omega) (by omega)
    · exact (h3 l hl).up (by omega) (by omega) (sq51 ..) (by omega) (by omega) (by omega) (by omega)
end
theorem lex_at {x y : Nat} (h : x < y) (s t : List Nat) : ∀ ad : List Nat, ad ++ [x] ++ s < ad ++ [y] ++ t
  | [] => by
    show x :: s < y :: t
    rw [List.cons_lt_cons_iff]
    exact .inl h
  | a :: ad => by
    show a :: (ad ++ [x] ++ s) < a :: (ad ++ [y] ++ t)
    rw [List.cons_lt_cons_iff]
    exact .inr ⟨rfl, lex_at h s t ad⟩
section
variable {R : List Qd} (G : Gd R)
include G
theorem lvg_sorted : ∀ (k m : Nat) (r c : Int) (ad : List Nat), m < R.length + 2 → nth (deps R) m ≤ k → (lvg R k m r c ad).Pairwise (fun x y => x.ad < y.ad) := by
  suffices h : ∀ (k m : Nat) (r c : Int) (ad : List Nat), m < R.length + 2 → nth (deps R) m ≤ k → (lvg R k m r c ad).Pairwise (fun x y => x.ad < y.ad) ∧ ∀ l ∈ lvg R k m r c ad, ∃ s, l.ad = ad ++ s from
    fun k m r c ad h1 h2 => (h k m r c ad h1 h2).1
  refine tree_ind G (P := fun k m r c ad L => L.Pairwise (fun x y => x.ad < y.ad) ∧ ∀ l ∈ L, ∃ s, l.ad = ad ++ s) ?_ ?_
  · intro k m r c ad h
    exact ⟨List.pairwise_singleton _ _, fun l hl => by rw [List.mem_singleton] at hl; subst hl; exact ⟨[], by simp⟩⟩
  · rintro k i q r c ad l0 l1 l2 l3 hq ⟨h0, e0⟩ ⟨h1, e1⟩ ⟨h2, e2⟩ ⟨h3, e3⟩
    refine ⟨?_, ?_⟩
    · rw [List.pairwise_append, List.pairwise_append, List.pairwise_append]
      refine ⟨⟨⟨h0, h1, ?_⟩, h2, ?_⟩, h3, ?_⟩
      · intro a ha b hb
        obtain ⟨s, hs⟩ := e0 a ha
        obtain ⟨t, ht⟩ := e1 b hb
        rw [hs, ht]
        exact lex_at (by omega) _ _ _
      · intro a ha b hb
        obtain ⟨t, ht⟩ := e2 b hb
        rcases List.mem_append.mp ha with ha | ha
        · obtain ⟨s, hs⟩ := e0 a ha
          rw [hs, ht]
          exact lex_at (by omega) _ _ _
        · obtain ⟨s, hs⟩ := e1 a ha
          rw [hs, ht]
          exact lex_at (by omega) _ _ _
      · intro a ha b hb
        obtain ⟨t, ht⟩ := e3 b hb
        rcases List.mem_append.mp ha with ha | ha
        · rcases List.mem_append.mp ha with ha | ha
          · obtain ⟨s, hs⟩ := e0 a ha
            rw [hs, ht]
            exact lex_at (by omega) _ _ _
          · obtain ⟨s, hs⟩ := e1 a ha
            rw [hs, ht]
            exact lex_at (by omega) _ _ _
        · obtain ⟨s, hs⟩ := e2 a ha
          rw [hs, ht]
          exact lex_at (by omega) _ _ _
    · intro l hl
      rcases List.mem_append.mp hl with hl | hl
      · rcases List.mem_append.mp hl with hl | hl
        · rcases List.mem_append.mp hl with hl | hl
          · obtain ⟨s, hs⟩ := e0 l hl
            exact ⟨[48] ++ s, by rw [hs, List.append_assoc]⟩
          · obtain ⟨s, hs⟩ := e1 l hl
            exact ⟨[49] ++ s, by rw [hs, List.append_assoc]⟩
        · obtain ⟨s, hs⟩ := e2 l hl
          exact ⟨[50] ++ s, by rw [hs, List.append_assoc]⟩
      · obtain ⟨s, hs⟩ := e3 l hl
        exact ⟨[51] ++ s, by rw [hs, List.append_assoc]⟩
/-- what adds up over quarters adds up over leaves -/
theorem lvg_sum {f : Int → Int → Int → Int} (hf : ∀ (k : Nat) (r c : Int), f r c ((2 : Int) ^ (k + 1)) = f r c ((2 : Int) ^ k) + f r (c + (2 : Int) ^ k) ((2 : Int) ^ k) + f (r + (2 : Int) ^ k) c ((2 : Int) ^ k) + f (r + (2 : Int) ^ k) (c + (2 : Int) ^ k) ((2 : Int) ^ k)) :
    ∀ (k m : Nat) (r c : Int) (ad : List Nat), m < R.length + 2 → nth (deps R) m ≤ k → ((lvg R k m r c ad).map fun l => f l.r l.c l.s).sum = f r c ((2 : Int) ^ k) := by
  refine tree_ind G (P := fun k m r c ad L => (L.map fun l => f l.r l.c l.s).sum = f r c ((2 : Int) ^ k)) ?_ ?_
  · intro k m r c ad h
    simp
  · intro k i q r c ad l0 l1 l2 l3 hq h0 h1 h2 h3
    rw [List.map_append, List.map_append, List.map_append, List.sum_append, List.sum_append, List.sum_append, h0, h1, h2, h3, hf]
theorem lvg_full : ∀ (k m : Nat) (r c : Int) (ad : List Nat), m < R.length + 2 → nth (deps R) m ≤ k → m ≠ 0 → ∃ l ∈ lvg R k m r c ad, l.full = true := by
  refine tree_ind G (P := fun k m r c ad L => m ≠ 0 → ∃ l ∈ L, l.full = true) ?_ ?_
  · intro k m r c ad h h0
    have : m = 1 := by omega
    subst this
    exact ⟨_, List.mem_singleton.mpr rfl, rfl⟩
  · intro k i q r c ad l0 l1 l2 l3 hq h0 h1 h2 h3 _
    have hne : q ≠ q0 := fun z => G.n0 (by rw [← z]; exact List.mem_of_getElem? hq)
    have : q.a ≠ 0 ∨ q.b ≠ 0 ∨ q.c ≠ 0 ∨ q.d ≠ 0 := by
      apply Decidable.byContradiction
      intro z
      apply hne
      cases q
      simp only [q0, Qd.mk.injEq]
      simp only at z
      omega
    rcases this with h | h | h | h
    · obtain ⟨l, hl, hf⟩ := h0 h
      exact ⟨l, by simp [hl], hf⟩
    · obtain ⟨l, hl, hf⟩ := h1 h
      exact ⟨l, by simp [hl], hf⟩
    · obtain ⟨l, hl, hf⟩ := h2 h
      exact ⟨l, by simp [hl], hf⟩
    · obtain ⟨l, hl, hf⟩ := h3 h
      exact ⟨l, by simp [hl], hf⟩
end
/-! ### the way down to a cell's leaf -/
def qat (q : Qd) : Nat → Nat
  | 0 => q.a
  | 1 => q.b
  | 2 => q.c
  | _ => q.d
def qof (x y : Int) (k : Nat) : Nat := 2 * (x / (2 : Int) ^ k % 2).toNat + (y / (2 : Int) ^ k % 2).toNat
def lf (R : List Qd) (x y : Int) : Nat → Nat → List Nat → List Nat × Nat
  | 0, m, ad => (ad, m)
  | k + 1, m, ad => if 1 < m then lf R x y k (qat (R.getD (m - 2) q0) (qof x y k)) (ad ++ [48 + qof x y k]) else lf R x y k m ad
theorem lf_low {R : List Qd} {x y : Int} {m : Nat} (h : m < 2) : ∀ (k : Nat) (ad : List Nat), lf R x y k m ad = (ad, m)
  | 0, _ => rfl
  | k + 1, ad => by
    unfold lf
    rw [if_neg (by omega)]
    exact lf_low h k ad
theorem bit_lo {k : Nat} {u x : Int} (h0 : u * (2 : Int) ^ (k + 1) ≤ x) (h1 : x < u * (2 : Int) ^ (k + 1) + (2 : Int) ^ k) : x / (2 : Int) ^ k % 2 = 0 := by
  have hp := two_pow_pos k
  have e : u * (2 : Int) ^ (k + 1) = (2 * u) * (2 : Int) ^ k := by rw [two_pow_succ, Int.mul_add, Int.mul_comm 2 u, Int.mul_assoc, Int.two_mul, Int.mul_add]
  rw [e] at h0 h1
  have : x / (2 : Int) ^ k = 2 * u := by
    have a := Int.le_ediv_of_mul_le hp h0
    have b : x / (2 : Int) ^ k < 2 * u + 1 := Int.ediv_lt_of_lt_mul hp (by rw [Int.add_mul, Int.one_mul]; exact h1)
    omega
  rw [this]
  omega
theorem bit_hi {k : Nat} {u x : Int} (h0 : u * (2 : Int) ^ (k + 1) + (2 : Int) ^ k ≤ x) (h1 : x < u * (2 : Int) ^ (k + 1) + (2 : Int) ^ (k + 1)) : x / (2 : Int) ^ k % 2 = 1 := by
  have hp := two_pow_pos k
  have e : u * (2 : Int) ^ (k + 1) = (2 * u) * (2 : Int) ^ k := by rw [two_pow_succ, Int.mul_add, Int.mul_comm 2 u, Int.mul_assoc, Int.two_mul, Int.mul_add]
  rw [e] at h0 h1
  rw [two_pow_succ] at h1
  have : x / (2 : Int) ^ k = 2 * u + 1 := by
    have a : 2 * u + 1 ≤ x / (2 : Int) ^ k := Int.le_ediv_of_mul_le hp (by rw [Int.add_mul, Int.one_mul]; exact h0)
    have b : x / (2 : Int) ^ k < 2 * u + 2 := Int.ediv_lt_of_lt_mul hp (by rw [Int.add_mul, Int.two_mul ((2 : Int) ^ k)]; omega)
    omega
  rw [this]
  omega
section
variable {R : List Qd} (G : Gd R)
include G
theorem lvg_lf : ∀ (k m : Nat) (r c : Int) (ad : List Nat), m < R.length + 2 → nth (deps R) m ≤ k →
    (∃ u, r = u * (2 : Int) ^ k) → (∃ v, c = v * (2 : Int) ^ k) → ∀ l ∈ lvg R k m r c ad, ∀ x y : Int, l.r ≤ x → x < l.r + l.s → l.c ≤ y → y < l.c + l.s → lf R x y k m ad = (l.ad, if l.full = true then 1 else 0) := by
  suffices h : ∀ (k m : Nat) (r c : Int) (ad : List Nat), m < R.length + 2 → nth (deps R) m ≤ k →
      ((∃ u, r = u * (2 : Int) ^ k) → (∃ v, c = v * (2 : Int) ^ k) → ∀ l ∈ lvg R k m r c ad, (r ≤ l.r ∧ l.r + l.s ≤ r + (2 : Int) ^ k ∧ c ≤ l.c ∧ l.c + l.s ≤ c + (2 : Int) ^ k) ∧ ∀ x y : Int, l.r ≤ x → x < l.r + l.s → l.c ≤ y → y < l.c + l.s → lf R x y k m ad = (l.ad, if l.full = true then 1 else 0)) from
    fun k m r c ad h1 h2 h3 h4 l hl => (h k m r c ad h1 h2 h3 h4 l hl).2
  refine tree_ind G (P := fun k m r c ad L => (∃ u, r = u * (2 : Int) ^ k) → (∃ v, c = v * (2 : Int) ^ k) → ∀ l ∈ L, (r ≤ l.r ∧ l.r + l.s ≤ r + (2 : Int) ^ k ∧ c ≤ l.c ∧ l.c + l.s ≤ c + (2 : Int) ^ k) ∧ ∀ x y : Int, l.r ≤ x → x < l.r + l.s → l.c ≤ y → y < l.c + l.s → lf R x y k m ad = (l.ad, if l.full = true then 1 else 0)) ?_ ?_
  · intro k m r c ad h _ _ l hl
    rw [List.mem_singleton] at hl
    subst hl
    refine ⟨⟨Int.le_refl _, Int.le_refl _, Int.le_refl _, Int.le_refl _⟩, fun x y _ _ _ _ => ?_⟩
    rw [lf_low h]
    show (ad, m) = (ad, if (m == 1) = true then 1 else 0)
    by_cases h1 : m = 1
    · subst h1; rfl
    · have : m = 0 := by omega
      subst this; rfl
  · rintro k i q r c ad l0 l1 l2 l3 hq h0 h1 h2 h3 ⟨u, hu⟩ ⟨v, hv⟩ l hl
    have p := two_pow_succ k
    have pp := two_pow_pos k
    have eu : u * (2 : Int) ^ (k + 1) = (2 * u) * (2 : Int) ^ k := by rw [p, Int.mul_add, Int.mul_comm 2 u, Int.mul_assoc, Int.two_mul, Int.mul_add]
    have ev : v * (2 : Int) ^ (k + 1) = (2 * v) * (2 : Int) ^ k := by rw [p, Int.mul_add, Int.mul_comm 2 v, Int.mul_assoc, Int.two_mul, Int.mul_add]
    have ar0 : ∃ z, r = z * (2 : Int) ^ k := ⟨2 * u, by rw [hu, eu]⟩
    have ac0 : ∃ z, c = z * (2 : Int) ^ k := ⟨2 * v, by rw [hv, ev]⟩
    have ar1 : ∃ z, r + (2 : Int) ^ k = z * (2 : Int) ^ k := ⟨2 * u + 1, by rw [hu, eu, Int.add_mul (2 * u), Int.one_mul]⟩
    have ac1 : ∃ z, c + (2 : Int) ^ k = z * (2 : Int) ^ k := ⟨2 * v + 1, by rw [hv, ev, Int.add_mul (2 * v), Int.one_mul]⟩
    have hR : R.getD i q0 = q := by rw [List.getD_eq_getElem?_getD, hq]; rfl
    have step : ∀ x y, lf R x y (k + 1) (i + 2) ad = lf R x y k (qat q (qof x y k)) (ad ++ [48 + qof x y k]) := fun x y => by
      rw [lf, if_pos (by omega), show i + 2 - 2 = i by omega, hR]
    rcases List.mem_append.mp hl with hl | hl
    · rcases List.mem_append.mp hl with hl | hl
      · rcases List.mem_append.mp hl with hl | hl
        · obtain ⟨⟨b1, b2, b3, b4⟩, hx⟩ := h0 ar0 ac0 l hl
          refine ⟨⟨by omega, by omega, by omega, by omega⟩, fun x y x0 x1 y0 y1 => ?_⟩
          have e1 := bit_lo (k := k) (u := u) (x := x) (by omega) (by omega)
          have e2 := bit_lo (k := k) (u := v) (x := y) (by omega) (by omega)
          have e : qof x y k = 0 := by unfold qof; rw [e1, e2]; rfl
          rw [step, e]
          exact hx x y x0 x1 y0 y1
        · obtain ⟨⟨b1, b2, b3, b4⟩, hx⟩ := h1 ar0 ac1 l hl
          refine ⟨⟨by omega, by omega, by omega, by omega⟩, fun x y x0 x1 y0 y1 => ?_⟩
          have e1 := bit_lo (k := k) (u := u) (x := x) (by omega) (by omega)
          have e2 := bit_hi (k := k) (u := v) (x := y) (by omega) (by omega)
          have e : qof x y k = 1 := by unfold qof; rw [e1, e2]; rfl
          rw [step, e]
          exact hx x y x0 x1 y0 y1
      · obtain ⟨⟨b1, b2, b3, b4⟩, hx⟩ := h2 ar1 ac0 l hl
        refine ⟨⟨by omega, by omega, by omega, by omega⟩, fun x y x0 x1 y0 y1 => ?_⟩
        have e1 := bit_hi (k := k) (u := u) (x := x) (by omega) (by omega)
        have e2 := bit_lo (k := k) (u := v) (x := y) (by omega) (by omega)
        have e : qof x y k = 2 := by unfold qof; rw [e1, e2]; rfl
        rw [step, e]
        exact hx x y x0 x1 y0 y1
    · obtain ⟨⟨b1, b2, b3, b4⟩, hx⟩ := h3 ar1 ac1 l hl
      refine ⟨⟨by omega, by omega, by omega, by omega⟩, fun x y x0 x1 y0 y1 => ?_⟩
      have e1 := bit_hi (k := k) (u := u) (x := x) (by omega) (by omega)
      have e2 := bit_hi (k := k) (u := v) (x := y) (by omega) (by omega)
      have e : qof x y k = 3 := by unfold qof; rw [e1, e2]; rfl
      rw [step, e]
      exact hx x y x0 x1 y0 y1
end
/-! ### ranks -/
def bey (x f s : Int) : Int := max (max (f - x) (x - (f + s - 1))) 0
structure Rk where
  far : Int
  x : Int
  y : Int
  deriving DecidableEq
def rk (row col r c s : Int) : Rk :=
  let far := max (bey row r s) (bey col c s)
  let found := max r (row - far)
  if row - found = far ∨ found - row = far then ⟨far, found, max c (col - far)⟩
  else if c > col then ⟨far, found, c⟩ else ⟨far, found, col - far⟩
/-- a cell's own rank -/
def cr (row col x y : Int) : Rk := ⟨max (max (x - row) (row - x)) (max (y - col) (col - y)), x, y⟩
def Rk.lt (a b : Rk) : Prop := a.far < b.far ∨ (a.far = b.far ∧ (a.x < b.x ∨ (a.x = b.x ∧ a.y < b.y)))
instance (a b : Rk) : Decidable (Rk.lt a b) := by unfold Rk.lt; infer_instance
theorem Rk.lt_trans {a b c : Rk} (h1 : a.lt b) (h2 : b.lt c) : a.lt c := by unfold Rk.lt at *; omega
theorem Rk.lt_of_nle {a b c : Rk} (h1 : ¬ a.lt b) (h2 : a.lt c) : b.lt c := by unfold Rk.lt at *; omega
theorem rk_cell' (row col r c s : Int) (hs : 1 ≤ s) : (r ≤ (rk row col r c s).x ∧ (rk row col r c s).x < r + s ∧ c ≤ (rk row col r c s).y ∧ (rk row col r c s).y < c + s) ∧
    (rk row col r c s).far = max (max ((rk row col r c s).x - row) (row - (rk row col r c s).x)) (max ((rk row col r c s).y - col) (col - (rk row col r c s).y)) := by
  unfold rk
  dsimp only
  split
  · dsimp only
    unfold bey at *
    omega
  · split <;> (dsimp only; unfold bey at *; omega)
theorem rk_cell (row col r c s : Int) (hs : 1 ≤ s) : ∃ x y, r ≤ x ∧ x < r + s ∧ c ≤ y ∧ y < c + s ∧ rk row col r c s = cr row col x y := by
  obtain ⟨⟨h1, h2, h3, h4⟩, h5⟩ := rk_cell' row col r c s hs
  refine ⟨_, _, h1, h2, h3, h4, ?_⟩
  unfold cr
  rw [← h5]
theorem rk_least (row col r c s x y : Int) (hs : 1 ≤ s) (x0 : r ≤ x) (x1 : x < r + s) (y0 : c ≤ y) (y1 : y < c + s) : ¬ (cr row col x y).lt (rk row col r c s) := by
  unfold rk
  dsimp only
  unfold Rk.lt cr
  split
  · dsimp only
    unfold bey at *
    omega
  · split <;> (dsimp only; unfold bey at *; omega)
/-! ### the cells told ahead -/
def absI (x : Int) : Int := max x (-x)
structure Pt where
  r : Int
  c : Int
  h : Int
  w : Int
def pAbove (row col far px : Int) : Pt := ⟨row - far, col - far, px - row + far, 2 * far + 1⟩
def pAmid (row col far px : Int) : Pt := ⟨max px (row - far + 1), col - far + 1, row + far - max px (row - far + 1), 2 * far - 1⟩
def pLine (row col far px py : Int) : Pt := ⟨px, col - far, 1, if absI (px - row) < far then min 1 (py - col + far) else py - col + far⟩
def cm (p : Pt) (r c s : Int) : Int := ar p.r p.h p.c p.w r c s
def share (row col far px py r c s : Int) : Int := cm (pAbove row col far px) r c s + cm (pAmid row col far px) r c s + cm (pLine row col far px py) r c s
theorem cm_nonneg (p : Pt) (r c s : Int) : 0 ≤ cm p r c s := ar_nonneg ..
theorem ov_pos {a h x n : Int} : 0 < ov a h x n ↔ ∃ z, a ≤ z ∧ z < a + h ∧ x ≤ z ∧ z < x + n := by
  unfold ov
  constructor
  · intro hh
    exact ⟨max a x, by omega, by omega, by omega, by omega⟩
  · rintro ⟨z, h1, h2, h3, h4⟩
    omega
theorem cm_pos {p : Pt} {r c s : Int} : 0 < cm p r c s ↔ ∃ x y, (r ≤ x ∧ x < r + s ∧ c ≤ y ∧ y < c + s) ∧ p.r ≤ x ∧ x < p.r + p.h ∧ p.c ≤ y ∧ y < p.c + p.w := by
  unfold cm ar
  constructor
  · intro h
    have h1 := ov_nonneg p.r p.h r s
    have h2 := ov_nonneg p.c p.w c s
    have z1 : 0 < ov p.r p.h r s := by
      rcases Int.lt_or_eq_of_le h1 with z | z
      · exact z
      · rw [← z, Int.zero_mul] at h; omega
    have z2 : 0 < ov p.c p.w c s := by
      rcases Int.lt_or_eq_of_le h2 with z | z
      · exact z
      · rw [← z, Int.mul_zero] at h; omega
    obtain ⟨x, a1, a2, a3, a4⟩ := ov_pos.mp z1
    obtain ⟨y, b1, b2, b3, b4⟩ := ov_pos.mp z2
    exact ⟨x, y, ⟨a3, a4, b3, b4⟩, a1, a2, b1, b2⟩
  · rintro ⟨x, y, ⟨a3, a4, b3, b4⟩, a1, a2, b1, b2⟩
    exact Int.mul_pos (ov_pos.mpr ⟨x, a1, a2, a3, a4⟩) (ov_pos.mpr ⟨y, b1, b2, b3, b4⟩)
theorem region {row col far px py x y : Int} (hd : max (max (px - row) (row - px)) (max (py - col) (col - py)) = far) :
    ((row - far ≤ x ∧ x < row - far + (px - row + far) ∧ col - far ≤ y ∧ y < col - far + (2 * far + 1)) ∨
     (max px (row - far + 1) ≤ x ∧ x < max px (row - far + 1) + (row + far - max px (row - far + 1)) ∧ col - far + 1 ≤ y ∧ y < col - far + 1 + (2 * far - 1)) ∨
     (px ≤ x ∧ x < px + 1 ∧ col - far ≤ y ∧ y < col - far + (if absI (px - row) < far then min 1 (py - col + far) else py - col + far))) ↔ (cr row col x y).lt ⟨far, px, py⟩ := by
  unfold Rk.lt cr absI
  dsimp only
  split <;> omega
theorem share_pos {row col far px py r c s : Int} (hs : 1 ≤ s) (hd : max (max (px - row) (row - px)) (max (py - col) (col - py)) = far) : 0 < share row col far px py r c s ↔ (rk row col r c s).lt ⟨far, px, py⟩ := by
  have n1 := cm_nonneg (pAbove row col far px) r c s
  have n2 := cm_nonneg (pAmid row col far px) r c s
  have n3 := cm_nonneg (pLine row col far px py) r c s
  unfold share
  constructor
  · intro h
    have : ∃ x y, (r ≤ x ∧ x < r + s ∧ c ≤ y ∧ y < c + s) ∧ (cr row col x y).lt ⟨far, px, py⟩ := by
      have : 0 < cm (pAbove row col far px) r c s ∨ 0 < cm (pAmid row col far px) r c s ∨ 0 < cm (pLine row col far px py) r c s := by omega
      rcases this with h | h | h
      · obtain ⟨x, y, hb, h⟩ := cm_pos.mp h
        exact ⟨x, y, hb, (region hd).mp (.inl h)⟩
      · obtain ⟨x, y, hb, h⟩ := cm_pos.mp h
        exact ⟨x, y, hb, (region hd).mp (.inr (.inl h))⟩
      · obtain ⟨x, y, hb, h⟩ := cm_pos.mp h
        exact ⟨x, y, hb, (region hd).mp (.inr (.inr h))⟩
    obtain ⟨x, y, ⟨a, b, c', d⟩, h⟩ := this
    exact Rk.lt_of_nle (rk_least row col r c s x y hs a b c' d) h
  · intro h
    obtain ⟨x, y, a, b, c', d, e⟩ := rk_cell row col r c s hs
    rw [e] at h
    rcases (region hd).mpr h with h | h | h
    · have := (cm_pos (p := pAbove row col far px) (r := r) (c := c) (s := s)).mpr ⟨x, y, ⟨a, b, c', d⟩, h⟩
      omega
    · have := (cm_pos (p := pAmid row col far px) (r := r) (c := c) (s := s)).mpr ⟨x, y, ⟨a, b, c', d⟩, h⟩
      omega
    · have := (cm_pos (p := pLine row col far px py) (r := r) (c := c) (s := s)).mpr ⟨x, y, ⟨a, b, c', d⟩, h⟩
      omega
theorem share_add (row col far px py : Int) (k : Nat) (r c : Int) : share row col far px py r c ((2 : Int) ^ (k + 1)) = share row col far px py r c ((2 : Int) ^ k) + share row col far px py r (c + (2 : Int) ^ k) ((2 : Int) ^ k) +
    share row col far px py (r + (2 : Int) ^ k) c ((2 : Int) ^ k) + share row col far px py (r + (2 : Int) ^ k) (c + (2 : Int) ^ k) ((2 : Int) ^ k) := by
  have hp := Int.le_of_lt (two_pow_pos k)
  unfold share cm
  rw [two_pow_succ, ar_add _ _ _ _ _ _ _ hp, ar_add _ _ _ _ _ _ _ hp, ar_add _ _ _ _ _ _ _ hp]
  omega
end QF
set_option Elab.async false
set_option linter.all false
set_option maxRecDepth 100000
set_option maxHeartbeats 4000000
/-! Rules of our own, 1: set(xs) of a list of texts no two of which are alike; sorted of it, at any length below the scan's bound. -/
namespace QX
open PySem PySem.Spec PyProof.Rows L2
def tx (e : Int × Value) : Str := match e.2 with
  | .str x _ => x
  | _ => Str.empty
def TxE (w : World) (e : Int × Value) : Prop := ∃ x tk, e.2 = Value.str x tk ∧ e.1 = hashStr w x
/-- at a stands a set of just the texts xs -/
def SetX (w : World) (h : Heap) (a : Addr) (xs : List Str) : Prop :=
  ∃ ob es ep tb, h.get? a = some ob ∧ ob.ExactSet ∧ ob.data = .set es ep tb ∧ (∀ e ∈ es.toList, TxE w e) ∧ (es.toList.map tx).Perm xs ∧
    es.size < scanBound ∧ tb.fits es.size = true ∧ Ris tb.place.toList ∧ (w.params.followText "set-order" = true ∨ tb.led = true)
section
variable {P : Program} {w : World} {h h' : Heap} {a : Addr} {xs : List Str}
theorem SetX.at (R : SetX w h a xs) (k : ∀ o, h.get? a = some o → h'.get? a = some o) : SetX w h' a xs :=
  let ⟨ob, es, ep, tb, e, r⟩ := R
  ⟨ob, es, ep, tb, k _ e, r⟩
theorem tx_elems {l : List (Int × Value)} (g : ∀ e ∈ l, TxE w e) : ElemsOf (strKind P w) l := by
  intro e he
  obtain ⟨x, tk, e2, e1⟩ := g e he
  refine ⟨⟨x, ?_, e1⟩, ?_⟩
  · rw [e2]
    exact strKind_is P w x tk
  · rw [e2]
    rfl
theorem tx_is {e : Int × Value} (g : TxE w e) {k : Str} (h : (strKind P w).is k e.2 = true) : tx e = k := by
  obtain ⟨x, tk, e2, _⟩ := g
  rw [e2] at h
  have hs : (x == k) = true := h
  unfold tx
  rw [e2]
  exact eq_of_beq hs
end
section
variable {P : Program} {w : World} {A : Around} {E : Value → Shared → Prop} {s : Shared} {a : Addr} {xs : List Str}
/-- the new table is laid -/
theorem setX_tail {g : Bool → Sem Unit} (hg : ∀ (b : Bool) (z : Shared) (Z : Unit → Shared → Prop), Z () z → wpAny (model P w) A (g b) Z E z)
    {ob : Obj} {es : Array (Int × Value)} {ep : Nat} {tb : SetTable} (hob : s.heap.get? a = some ob) (hx : ob.ExactSet) (hd : ob.data = .set es ep tb)
    {en : Array (Int × Value)} {tn : SetTable} (gn : ∀ e ∈ en.toList, TxE w e) (pn : (en.toList.map tx).Perm xs)
    (bn : en.size < scanBound) (fn : tn.fits en.size = true) (rn : Ris tn.place.toList) (ln : w.params.followText "set-order" = true ∨ tn.led = true) {dm : Bool} {R : Option Bool → Shared → Prop}
    (hR : ∀ h', Heap.SameBut a s.heap h' → SetX w h' a xs → R (some true) { s with heap := h' }) :
    wpAny (model P w) A (do
        storeSet a en tn
        if (!dm && tn.tooFull) = true then do
            g (relayAll tn en (SetTable.grown en.size)).2.2
            storeSet a (relayAll tn en (SetTable.grown en.size)).1 (relayAll tn en (SetTable.grown en.size)).2.1
            pure (some true)
          else pure (some true)) R E s := by
  have o1 := store_at (es' := en) (t' := tn) hob hd
  have b1 := Heap.SameBut.update s.heap a (Obj.putSet en tn)
  refine wpAny_bind (wpAny_storeSet_of hob hd ?_ (fits_of_scanBound bn))
  split
  · have c1 := relayAll_perm tn en (SetTable.grown en.size)
    have c2 := relayAll_fits tn en (SetTable.grown en.size)
    have c3 := relayAll_ris tn en (SetTable.grown en.size)
    have c4 := relayAll_led tn en (SetTable.grown en.size)
    revert c1 c2 c3 c4
    generalize relayAll tn en (SetTable.grown en.size) = Z
    obtain ⟨em, tm, gw⟩ := Z
    dsimp only
    intro c1 c2 c3 c4
    have sz : em.size = en.size := by
      have := c1.length_eq
      simpa using this
    have bm : em.size < scanBound := by omega
    refine wpAny_bind (hg _ _ _ (wpAny_bind (wpAny_storeSet_of o1 rfl ?_ (fits_of_scanBound bm))))
    refine wpAny_pure (hR _ (b1.trans (Heap.SameBut.update _ a _)) ?_)
    refine ⟨_, em, _, tm, store_at (es' := em) (t' := tm) o1 rfl, hx, rfl, fun e he => gn e (c1.mem_iff.mp he), (c1.map tx).trans pn, bm, c2, c3, ?_⟩
    rcases ln with z | z
    · exact .inl z
    · exact .inr (c4.trans z)
  · exact wpAny_pure (hR _ b1 ⟨_, en, _, tn, o1, hx, rfl, gn, pn, bn, fn, rn, ln⟩)
/-- a text that isn't in it is added -/
theorem setX_add {k : Str} {tk : Tok} {Q : Bool → Shared → Prop} (R : SetX w s.heap a xs) (hk : k ∉ xs) (room : xs.length + 1 < scanBound)
    (hQ : ∀ h', Heap.SameBut a s.heap h' → SetX w h' a (xs ++ [k]) → Q true { s with heap := h' }) :
    wpAny (model P w) A (setAddHashed a (.str k tk) ((strKind P w).hash k)) Q E s := by
  obtain ⟨ob, es, ep, tb, hob, hx, hd, g, pm, bd, ft, rs, ld⟩ := R
  have sc : (Value.str k tk).scannable = true := rfl
  have el : ElemsOf (strKind P w) es.toList := tx_elems g
  have nf : List.findIdx? (fun e => (strKind P w).is k e.2) es.toList = none := by
    rw [List.findIdx?_eq_none_iff]
    intro e he
    cases q : (strKind P w).is k e.2 with
    | false => rfl
    | true =>
      exfalso
      apply hk
      rw [← pm.mem_iff, ← tx_is (g e he) q]
      exact List.mem_map.mpr ⟨e, he, rfl⟩
  unfold setAddHashed setAddHashedIn
  refine wpAny_holding (wpAny_bind (wpAny_setState_of hob hd ft ?_))
  dsimp only
  rw [byScan_of sc bd el]
  simp only [↓reduceIte]
  unfold setAddByScan
  refine wpAny_bind (wpAny_bind (wpAny_rule (wpAny_bind (wpAny_setScan_of (strKind_is P w k tk) hob hd ft el ?_))))
  rw [nf]
  dsimp only
  have way : ∀ (b : Bool) {z : Shared} {Z : Unit → Shared → Prop}, Z () z → wpAny (model P w) A (match b with | true => rule "set.scan.the-table-gave-way" | false => pure ()) Z E z := by
    intro b z Z q
    cases b
    · exact wpAny_pure q
    · exact wpAny_rule q
  have c1 := layNew_perm tb es ((strKind P w).hash k) (.str k tk)
  have c2 := layNew_fits tb es ((strKind P w).hash k) (.str k tk)
  have c3 := layNew_ris tb es ((strKind P w).hash k) (.str k tk) rs
  have c4 := layNew_led tb es ((strKind P w).hash k) (.str k tk)
  revert c1 c2 c3 c4
  generalize layNew tb es ((strKind P w).hash k) (.str k tk) = Z
  obtain ⟨en, tn, dm, gw⟩ := Z
  dsimp only
  intro c1 c2 c3 c4
  rw [Array.toList_push] at c1
  have gn : ∀ e ∈ en.toList, TxE w e := fun e he => by
    rcases List.mem_append.mp (c1.mem_iff.mp he) with q | q
    · exact g e q
    · rw [List.mem_singleton.mp q]
      exact ⟨k, tk, rfl, rfl⟩
  have pn : (en.toList.map tx).Perm (xs ++ [k]) := by
    have q := c1.map tx
    rw [List.map_append] at q
    exact q.trans (pm.append_right _)
  have bn : en.size < scanBound := by
    have q := pn.length_eq
    rw [List.length_map, Array.length_toList, List.length_append, List.length_singleton] at q
    omega
  have ln : w.params.followText "set-order" = true ∨ tn.led = true := by
    rcases ld with z | z
    · exact .inl z
    · exact .inr (c4.trans z)
  refine wpAny_bind (way _ ?_)
  split
  · refine wpAny_bind ?_
    rw [hashByValue_scannable 8 sc]
    refine wpAny_pure (setX_tail (xs := xs ++ [k]) ?_ hob hx hd gn pn bn ?_ ?_ ?_ ?_)
    · intro b z Z q
      cases b
      · exact wpAny_pure q
      · exact wpAny_rule q
    · split
      · first | exact c2 | exact SetTable.fits_plain_off c2
      · first | exact c2 | exact SetTable.fits_plain_off c2
    · split <;> exact c3
    · split <;> exact ln
    · intro h' sb r
      dsimp only
      exact wpAny_pure (hQ h' sb r)
  · refine wpAny_bind (wpAny_pure ?_)
    simp only [↓reduceIte]
    refine setX_tail (xs := xs ++ [k]) ?_ hob hx hd gn pn bn c2 c3 ln ?_
    · intro b z Z q
      cases b
      · exact wpAny_pure q
      · exact wpAny_rule q
    · intro h' sb r
      dsimp only
      exact wpAny_pure (hQ h' sb r)
theorem setX_fresh {hp : Heap} (hob : hp.get? a = some { cls := .type "set", dict := none, data := .set #[] 0 (.fresh 0 0 (!w.params.followText "set-order")) }) : SetX w hp a [] := by
  refine ⟨_, #[], 0, _, hob, ⟨rfl, rfl, rfl⟩, rfl, by simp, by simp, by decide, rfl, List.Pairwise.nil, ?_⟩
  cases w.params.followText "set-order"
  · exact .inr rfl
  · exact .inl rfl
end
section
variable {P : Program} {w : World} {A : Around} {R : Result → Shared → Prop} {I : Addr} {fp wr : List Addr} {G : Array GenState → Array GenState → Prop} {n : Nat} {Pv : Nat → Value → Prop} {St : Nat → Shared → Prop}
/-- the loop that takes the texts in -/
theorem setX_loop (W : WalksS P w A.in1 I fp wr G n Pv St) (S : Addr) (hSf : S ∉ fp) (xs : List Str) (hn : n = xs.length) (nd : xs.Nodup) (room : xs.length + 1 < scanBound)
    (hv : ∀ i v, Pv i v → ∃ x tk, xs[i]? = some x ∧ v = .str x tk) :
    ∀ (k i : Nat) (s : Shared), n - i = k → i ≤ n → St i s → SetX w s.heap S (xs.take i) →
      (∀ s', Moved (S :: wr) G s s' → SetX w s'.heap S xs → R (.ok (.ret .none)) s') →
      codeAny (model P w) A (.builtin "set.update.loop" ⟨[.ref S, .ref I], []⟩) R s := by
  have hw : S ∉ wr := fun z => hSf (W.sub _ z)
  have more : ∀ b ∈ wr, b ∈ S :: wr := fun b q => List.mem_cons_of_mem _ q
  intro k
  induction k with
  | zero =>
    intro i s ek hi st hS hR
    have e : i = n := by omega
    subst e
    refine codeAny_builtin F.entry_set_update_loop ?_
    rw [Around.under_plainId F.plain_set_update_loop _]
    show wpAny _ A.in1 (pyNext (.ref I) >>= _) _ _ s
    refine wpAny_bind (W.done s _ _ st fun s' mv => ?_)
    show wpAny _ A.in1 (ret Value.none) _ _ s'
    refine wpAny_pure (hR s' (mv.mono more) ?_)
    rw [hn, List.take_length] at hS
    exact hS.at fun o q => mv.heap S o hw q
  | succ k ih =>
    intro i s ek hi st hS hR
    have lt : i < n := by omega
    refine codeAny_builtin F.entry_set_update_loop ?_
    rw [Around.under_plainId F.plain_set_update_loop _]
    show wpAny _ A.in1 (pyNext (.ref I) >>= _) _ _ s
    refine wpAny_bind (W.item i s _ _ lt st fun v s' hP st' mv => ?_)
    obtain ⟨x, tk, hx, rfl⟩ := hv i v hP
    have hS' : SetX w s'.heap S (xs.take i) := hS.at fun o q => mv.heap S o hw q
    show wpAny _ A.in1 (holding [Value.str x tk] (setAdd S (.str x tk)) >>= _) _ _ s'
    refine wpAny_bind (wpAny_holding ?_)
    unfold setAdd
    refine wpAny_holding (wpAny_bind ((strKind P w).pyHash (k := x) (strKind_is P w x tk) ?_))
    have hil : i < xs.length := by omega
    have hxi : xs[i] = x := (List.getElem?_eq_some_iff.mp hx).2
    have new : x ∉ xs.take i := fun z => by
      obtain ⟨j, hj, e⟩ := List.getElem_of_mem z
      rw [List.getElem_take] at e
      have hji : j < i := by
        rw [List.length_take] at hj
        omega
      have ne := (List.pairwise_iff_getElem.mp nd) j i (by omega) hil hji
      rw [e, hxi] at ne
      exact ne rfl
    have tk1 : xs.take (i + 1) = xs.take i ++ [x] := by rw [List.take_succ_eq_append_getElem hil, hxi]
    refine setX_add (s := { s' with toks := s'.toks + 1 }) hS' new (by rw [List.length_take]; omega) fun h' sb r => ?_
    rw [← tk1] at r
    refine wpAny_pure ⟨plainId_quiet F.plain_set_update_loop _, ih (i + 1) _ (by omega) lt (W.frame _ s' _ _ st' (Nat.le_succ _) fun b hb o e => ?_) r fun s2 mv2 r2 => ?_⟩
    · rw [sb.2 b fun z => hSf (by rw [← z]; exact hb)]
      exact e
    · refine hR s2 (Moved.trans W.gtrans ((mv.mono more).then_heap (Nat.le_succ _) fun b o hb e => ?_) mv2) r2
      rw [sb.2 b fun z => hb (by rw [z]; exact List.mem_cons_self)]
      exact e
end
end QX
set_option Elab.async false
set_option linter.all false
set_option maxRecDepth 100000
set_option maxHeartbeats 4000000
/-! Rules of our own, 2: set(xs), sorted(xs), sorted(set) of texts as calls by values. -/
namespace QX
open PySem PySem.Spec PyProof.Rows L2
/-- code points of a text, as sorting compares them -/
def TLt (a b : Str) : Prop := a.cps.toList < b.cps.toList
theorem txt_ext {a b : Str} (h : a.cps.toList = b.cps.toList) : a = b := PySem.W.str_of_cps h
theorem sort_txt {zs xs : List Str} (p : zs.Perm xs) (h : xs.Pairwise TLt) : zs.mergeSort (PySem.W.dataLe false (fun b : Str => PyData.str b)) = xs := by
  rw [PySem.W.dataLe_str (fun b : Str => b)]
  have tr : ∀ a b c : Str, decide (a.cps.toList ≤ b.cps.toList) = true → decide (b.cps.toList ≤ c.cps.toList) = true → decide (a.cps.toList ≤ c.cps.toList) = true := by
    intro a b c h1 h2
    exact decide_eq_true (List.le_trans (of_decide_eq_true h1) (of_decide_eq_true h2))
  have to : ∀ a b : Str, (decide (a.cps.toList ≤ b.cps.toList) || decide (b.cps.toList ≤ a.cps.toList)) = true := by
    intro a b
    rw [Bool.or_eq_true]
    exact (List.le_total a.cps.toList b.cps.toList).imp decide_eq_true decide_eq_true
  refine List.Perm.eq_of_pairwise (le := fun a b : Str => decide (a.cps.toList ≤ b.cps.toList) = true) ?_ (List.pairwise_mergeSort tr to zs) ?_ ((List.mergeSort_perm _ _).trans p)
  · intro a b _ _ h1 h2
    exact txt_ext (List.le_antisymm (of_decide_eq_true h1) (of_decide_eq_true h2))
  · exact h.imp fun q => decide_eq_true (List.le_of_lt q)
theorem alike_txt (xs : List Str) : PySem.W.AllAlike (xs.map fun b => PyData.str b) := by
  intro d hd e he
  obtain ⟨a, _, rfl⟩ := List.mem_map.mp hd
  obtain ⟨b, _, rfl⟩ := List.mem_map.mp he
  rfl
theorem sortable_txt (xs : List Str) : PySem.W.Sortable (xs.map fun b => PyData.str b) := by
  right
  intro d hd
  obtain ⟨a, _, rfl⟩ := List.mem_map.mp hd
  exact ⟨(by intro z; cases z), (by intro _ z; cases z)⟩
/-- a value is a text -/
def IsTx (v : Value) (x : Str) : Prop := ∃ t, v = Value.str x t
theorem each_txt : ∀ {xs : List Str} {us : List Value}, Vals (xs.map V.str) us → PySem.W.EachIs IsTx us xs
  | [], _, .nil => .nil
  | x :: xs, _, .cons r t => .cons r (each_txt t)
theorem vals_txt : ∀ {xs : List Str} {us : List Value}, PySem.W.EachIs IsTx us xs → Vals (xs.map V.str) us
  | _, _, .nil => .nil
  | _, _, .cons r t => .cons r (vals_txt t)
section
variable {X : Cx}
/-- sorted(xs), the texts of xs being those of ys in some order, ys rising -/
def rSortX (K : PySem.W.Frag) : List V → Hp → VK → Prop := fun vs H Q => ∃ (a : Addr) (xs ys : List Str), vs = [V.ref a] ∧ SqL K H a (xs.map V.str) ∧ xs.Perm ys ∧ ys.Pairwise TLt ∧
  ∀ p, H p = none → Q (.ref p) (upd H p (.lst (ys.map V.str)))
theorem cr_sortX (hu : X.A.units + 64 < cLine) : CallR X (.builtin "sorted") (rSortX X.K) := by
  intro pins s σ H vs us Q I r h
  obtain ⟨a, xs, ys, rfl, hs, pm, so, q⟩ := h
  obtain ⟨its, rv, hl, hz⟩ := I.list hs
  rw [Vals.ref1 r]
  have ev := each_txt rv
  have hzl : xs.length ≤ sizeLine := by rw [List.length_map] at hz; exact hz
  refine PySem.W.sorted_data (bs := xs) (enc := fun b => PyData.str b) (R := IsTx) hl.isList ev (ev.mono fun v b ⟨t, e⟩ => ⟨_, by rw [e]; exact Reads.str b t⟩) (alike_txt xs) (sortable_txt xs) hzl ?_ fun out hlen eo => ?_
  · intro b _
    show X.A.units + 2 + (PyData.str b).depth < cLine
    have : (PyData.str b).depth = 0 := by simp [PyData.depth]
    omega
  · rw [sort_txt pm so] at eo
    obtain ⟨ep, he'⟩ := PyProof.Rows.sortedAll_at s.heap its (List.toArray out)
    have hl2 : (ys.map V.str).length ≤ sizeLine := by rw [List.length_map, ← pm.length_eq]; exact hzl
    exact ⟨.ref _, upd H (s.heap.objs.size + 1) (.lst (ys.map V.str)), I.laid (t' := s.toks) (fun _ _ => PyProof.Rows.sortedAll_old) (Nat.le_succ _) ⟨hl2, out, ep, vals_txt eo, he'⟩, rfl, q _ (I.hok.fresh (Nat.le_succ _))⟩
end
/-- the set of the texts xs at a -/
def SetXO (w : World) (a : Addr) (xs : List Str) : HO := .ext fun h => SetX w h a xs
theorem setXO_new {w : World} {P : Program} {H : Hp} {h : Heap} {a : Addr} {xs : List Str} (R : SetX w h a xs) : ObjOk P w H h a (SetXO w a xs) := by
  have ⟨o, _, _, _, ho, _⟩ := R
  exact ⟨R, ⟨o, ho⟩, fun h1 h2 p k => SetX.at p k⟩
section
variable {P : Program} {w : World} {A : Around} {E : Value → Shared → Prop} {s : Shared}
set_option maxHeartbeats 8000000 in
theorem setX_call {l : Addr} {its : Array Value} (xs : List Str) {Q : Value → Shared → Prop} (hh : A.handled = none) (hl : s.heap.IsList l its) (hit : PySem.W.EachIs IsTx its.toList xs) (nd : xs.Nodup) (room : xs.length + 1 < scanBound)
    (h : ∀ (h' : Heap) (tk : Nat), SetX w h' s.heap.objs.size xs → (∀ b o, s.heap.get? b = some o → h'.get? b = some o) → Q (.ref s.heap.objs.size) { s with heap := h', toks := tk }) :
    wpAny (model P w) A (call (.type "set") [.ref l]) Q E s := by
  have isz : its.size = xs.length := by rw [← Array.length_toList]; exact hit.length
  have at_ : ∀ (i : Nat) (v : Value), its[i]? = some v → ∃ x tk, xs[i]? = some x ∧ v = .str x tk := fun i v hv => by
    rw [← Array.getElem?_toList] at hv
    clear h isz hl room nd
    revert hv
    generalize its.toList = us at hit
    intro hv
    induction hit generalizing i with
    | nil => simp at hv
    | cons r t ih =>
      cases i with
      | zero =>
        obtain ⟨tk, e⟩ := r
        simp at hv
        exact ⟨_, tk, rfl, by rw [← hv, e]⟩
      | succ i => exact ih i (by simpa using hv)
  obtain ⟨c, tl, hmro⟩ := F.called_set.mro
  have hmade := F.called_set.made
  have hsub := F.called_set.sub
  refine wpAny_call (codeAny_of_tree ?_)
  show wpAny _ _ (callAny (.type "set") _) _ _ _
  refine wpAny_pure ⟨Code.quiet_builtin _ (by decide +kernel), codeAny_builtin F.entry_type_call ?_⟩
  rw [Around.under_plain (weight_type_call_type "set" [.ref l] []) rfl]
  have n1 := F.called_set.notType
  have n2 := F.called_set.canCreate
  have n3 := F.typeCall_set_1 (.ref l)
  repeat (any_goals (first | assumption | wp_step))
  refine codeAny_mono (code_set_led1 (.ref l) (E := E) (Q₁ := fun v z => v = .ref s.heap.objs.size ∧ z = { s with heap := s.heap.push { cls := .type "set", dict := none, data := .set #[] 0 (.fresh 0 0 (!w.params.followText "set-order")) } }) ⟨rfl, rfl⟩) fun r z hr => ?_
  cases r with
  | error e => exact hr
  | ok fl =>
    cases fl with
    | ret v =>
      obtain ⟨rfl, rfl⟩ := hr
      have gN : (s.heap.push ({ cls := .type "set", dict := none, data := .set #[] 0 (.fresh 0 0 (!w.params.followText "set-order")) } : Obj)).get? s.heap.objs.size = some ({ cls := .type "set", dict := none, data := .set #[] 0 (.fresh 0 0 (!w.params.followText "set-order")) } : Obj) := Heap.get?_push_size _ rfl
      have hT : Shared.TypeIs { s with heap := s.heap.push ({ cls := .type "set", dict := none, data := .set #[] 0 (.fresh 0 0 (!w.params.followText "set-order")) } : Obj) } (.ref s.heap.objs.size) "set" := ⟨_, gN, rfl⟩
      have hli := F.called_set.init.lookup
      have hbi := F.called_set.init.bind (.ref s.heap.objs.size)
      repeat (any_goals (first | assumption | wp_step))
      refine codeAny_mono (codeAny_call_builtin (R := wants (fun r z => r = .none ∧ ∃ h' tk, z = { s with heap := h', toks := tk } ∧ SetX w h' s.heap.objs.size xs ∧ (∀ b o, s.heap.get? b = some o → h'.get? b = some o)) E) F.called_set.init.plain F.entry_set_init (check_set_init_1 hT ?_)) fun r2 z2 hr2 => ?_
      · obtain ⟨ol, hol, hcl, nl, hdl⟩ := hl
        obtain ⟨ocls, odict, odata, oslots⟩ := ol
        simp only at hcl hdl
        subst hcl; subst hdl
        have hol' : (s.heap.push ({ cls := .type "set", dict := none, data := .set #[] 0 (.fresh 0 0 (!w.params.followText "set-order")) } : Obj)).get? l = some { cls := .type "list", dict := odict, data := .seq its nl, slots := oslots } := Heap.get?_push_of_some _ hol
        have m1 := F.sub_list_set
        have m2 := F.sub_list_frozenset
        have m3 : (Value.type "list" == Value.type "dict") = false := by decide
        have hl1 : (s.heap.push ({ cls := .type "set", dict := none, data := .set #[] 0 (.fresh 0 0 (!w.params.followText "set-order")) } : Obj)).IsList l its := ⟨_, hol', rfl, nl, rfl⟩
        unfold Builtin.«set.__init__» noKeywords Builtin.Frozenset.updateFrom
        generalize hPI : pyIter = PI
        wp_walk
        subst hPI
        refine wpAny_pyIter_list hl1 ?_
        refine wpAny_bind (wpAny_runValue ?_)
        have ls : l < s.heap.objs.size := Heap.lt_size hol
        have hh3 : A.in1.in1.in1.handled = none := by simp [hh]
        have z1 : (s.heap.push ({ cls := .type "set", dict := none, data := .set #[] 0 (.fresh 0 0 (!w.params.followText "set-order")) } : Obj)).objs.size = s.heap.objs.size + 1 := Heap.size_push ..
        have neI : l ≠ (s.heap.push ({ cls := .type "set", dict := none, data := .set #[] 0 (.fresh 0 0 (!w.params.followText "set-order")) } : Obj)).objs.size := by rw [z1]; exact Nat.ne_of_lt (Nat.lt_succ_of_lt ls)
        have nin : s.heap.objs.size ∉ [(s.heap.push ({ cls := .type "set", dict := none, data := .set #[] 0 (.fresh 0 0 (!w.params.followText "set-order")) } : Obj)).objs.size, l] := by
          rw [z1]
          simp only [List.mem_cons, List.not_mem_nil, or_false, not_or]
          exact ⟨Nat.ne_of_lt (Nat.lt_succ_self _), Nat.ne_of_gt ls⟩
        refine setX_loop ((Walks.list hh3 _ l neI its).toS) s.heap.objs.size nin xs isz nd room at_ (its.size - 0) 0 _ (by omega) (Nat.zero_le _)
          ⟨⟨_, Heap.get?_push_size _ rfl, rfl, rfl⟩, (hl1.push _)⟩ ?_ ?_
        · rw [List.take_zero]
          exact setX_fresh (Heap.get?_push_of_some _ gN)
        · intro s' mv r'
          obtain ⟨h', g2, d2, t2, o2⟩ := s'
          have e1 : g2 = s.gens := mv.gens
          have e2 : d2 = s.drawn := mv.drawn
          have e3 : o2 = s.os := mv.os
          subst e1; subst e2; subst e3
          show wpAny _ _ _ _ _ _
          refine wpAny_pure ?_
          show wpAny _ _ (ret Value.none) _ _ _
          refine wpAny_pure ⟨rfl, h', t2, rfl, r', fun b o e => ?_⟩
          have lt := Heap.lt_size e
          refine mv.heap b o ?_ (Heap.get?_push_of_some _ (Heap.get?_push_of_some _ e))
          rw [z1]
          simp only [List.mem_cons, List.not_mem_nil, or_false, not_or]
          exact ⟨Nat.ne_of_lt lt, Nat.ne_of_lt (Nat.lt_succ_of_lt lt)⟩
      · cases r2 with
        | error e => exact hr2
        | ok fl2 =>
          cases fl2 with
          | ret r =>
            obtain ⟨rfl, h', tk, rfl, r', k'⟩ := hr2
            repeat (any_goals (first | assumption | wp_step))
            exact h _ _ r' k'
          | _ => exact hr2.elim
    | _ => exact hr.elim
end
section
variable {X : Cx}
/-- set(xs), no two texts alike -/
def rSetX (K : PySem.W.Frag) (w : World) : List V → Hp → VK → Prop := fun vs H Q => ∃ (a : Addr) (xs : List Str), vs = [V.ref a] ∧ SqL K H a (xs.map V.str) ∧ xs.Nodup ∧ xs.length + 1 < scanBound ∧
  ∀ p, H p = none → Q (.ref p) (upd H p (SetXO w p xs))
theorem cr_setX (hc : X.calm = true) : CallR X (.type "set") (rSetX X.K X.w) := by
  intro pins s σ H vs us Q I r h
  obtain ⟨a, xs, rfl, hs, nd, rm, q⟩ := h
  obtain ⟨its, rv, hl, hz⟩ := I.list hs
  rw [Vals.ref1 r]
  refine setX_call xs (I.ok.hd hc) hl.isList (by simpa using each_txt rv) nd rm fun h' tk r' k' => ?_
  exact ⟨.ref _, upd H s.heap.objs.size (SetXO X.w s.heap.objs.size xs), I.laid (t' := tk) k' (Nat.le_refl _) (setXO_new r'), rfl, q _ (I.hok.fresh (Nat.le_refl _))⟩
/-- sorted of such a set -/
def rSortSX (w : World) : List V → Hp → VK → Prop := fun vs H Q => ∃ (a : Addr) (xs : List Str), vs = [V.ref a] ∧ H a = some (SetXO w a xs) ∧ xs.Pairwise TLt ∧ xs.length ≤ 1000000 ∧
  ∀ p, H p = none → Q (.ref p) (upd H p (.lst (xs.map V.str)))
theorem texts_of {w : World} : ∀ {l : List (Int × Value)}, (∀ e ∈ l, TxE w e) → PySem.W.EachIs IsTx (l.map (·.2)) (l.map tx)
  | [], _ => .nil
  | e :: l, h => by
    refine .cons ?_ (texts_of fun x hx => h x (List.mem_cons_of_mem _ hx))
    obtain ⟨x, tk, e2, _⟩ := h e List.mem_cons_self
    refine ⟨tk, ?_⟩
    show e.2 = Value.str (tx e) tk
    unfold tx
    rw [e2]
theorem texts_all (vs : List Value) (h : ∀ v ∈ vs, ∃ x t, v = Value.str x t) : PySem.W.EachIs IsTx vs (vs.map fun v => tx (0, v)) := by
  induction vs with
  | nil => exact .nil
  | cons v vs ih =>
    obtain ⟨x, t, e⟩ := h v List.mem_cons_self
    refine .cons ⟨t, ?_⟩ (ih fun u hu => h u (List.mem_cons_of_mem _ hu))
    rw [e]
    rfl
theorem cr_sortSX (hc : X.calm = true) (hu : X.A.units + 64 < cLine) : CallR X (.builtin "sorted") (rSortSX X.w) := by
  intro pins s σ H vs us Q I r h
  obtain ⟨a, xs, rfl, ha, so, hlen, q⟩ := h
  obtain ⟨ob, es, ep, tb, hob, hx, hd, g, pm, bd, ft, rs, ld⟩ := (I.hok a _ ha).1
  rw [Vals.ref1 r]
  refine Calls.call_function_entry kind_sorted plain_sorted entry_sorted (args_sorted1 _) ?_
  unfold Builtin.«sorted»
  refine wpAny_bind (m := checkCount "sorted" 1 1 _) (wpAny_pure ?_)
  refine wpAny_bind (collect_set (A := X.A.in1) (I.ok.hd hc) ⟨ob, hob, hx.1, hd⟩ ft bd rs ld fun s1 vs k1 hz g1 o1 pv => ?_)
  have hvs : ∀ v ∈ vs, ∃ x t, v = Value.str x t := fun v hv => by
    obtain ⟨e, he, rfl⟩ := List.mem_map.mp (pv.mem_iff.mp hv)
    obtain ⟨x, t, e2, _⟩ := g e he
    exact ⟨x, t, e2⟩
  have pt : (vs.map fun v => tx (0, v)).Perm xs := by
    have z := pv.map fun v => tx (0, v)
    rw [List.map_map] at z
    exact z.trans pm
  have vl : vs.length = xs.length := by rw [← pt.length_eq, List.length_map]
  have sl : vs.length ≤ sizeLine := by rw [vl, sizeLine_eq]; omega
  refine wpAny_bind (wpAny_newList ?_ sl)
  have gL : (s1.heap.push (seqObj "list" vs.toArray 0)).get? s1.heap.objs.size = some (seqObj "list" vs.toArray 0) := Heap.get?_push_size _ rfl
  have ev := texts_all vs hvs
  refine wpAny_bind (wpAny_holding (PySem.W.list_sort_data (A := X.A.in1) (bs := vs.map fun v => tx (0, v)) (enc := fun b => PyData.str b) (R := IsTx) gL ev
    (ev.mono fun v b ⟨t, e⟩ => ⟨[], by rw [e]; exact Reads.str b t, by simp⟩) (alike_txt _) (sortable_txt _) (by rw [List.length_map]; exact sl) ?_ fun out ho eo => ?_))
  · intro b _
    have z : (PyData.str b).depth = 0 := by simp [PyData.depth]
    have u : X.A.in1.units = X.A.units + 1 := rfl
    show X.A.in1.units + 1 + (PyData.str b).depth < cLine
    rw [z, u]
    omega
  · rw [sort_txt pt so] at eo
    obtain ⟨c, hcc⟩ := PyProof.Rows.sortedHeap_at (vs := vs) (out := out.toArray) gL
    refine wpAny_pure ⟨_, rfl, ?_⟩
    have keep : ∀ b o, s.heap.get? b = some o → (PyProof.Rows.sortedHeap (s1.heap.push (seqObj "list" vs.toArray 0)) s1.heap.objs.size vs out.toArray).get? b = some o := fun b o e => by
      have e1 := k1 b o e
      have lt := Heap.lt_size e1
      rw [PyProof.Rows.sortedHeap_old (Nat.ne_of_lt lt) (by rw [size_push']; exact Nat.lt_succ_of_lt lt)]
      exact Heap.get?_push_of_some _ e1
    have hn : H s1.heap.objs.size = none := I.hok.fresh hz
    have hl2 : (xs.map V.str).length ≤ sizeLine := by rw [List.length_map, ← vl]; exact sl
    have J : Inv X pins σ (upd H s1.heap.objs.size (.lst (xs.map V.str))) { s with heap := PyProof.Rows.sortedHeap (s1.heap.push (seqObj "list" vs.toArray 0)) s1.heap.objs.size vs out.toArray, gens := s1.gens, drawn := s1.drawn, toks := s1.toks } :=
      I.call (ch := []) (Un.laid keep hz hn) (I.hok.laid keep hz ⟨hl2, out, c, vals_txt eo, hcc⟩) (by show AllBare s1.gens; rw [g1]; exact I.bare) (fun _ z => nomatch z)
    have e : ({ s1 with heap := PyProof.Rows.sortedHeap (s1.heap.push (seqObj "list" vs.toArray 0)) s1.heap.objs.size vs out.toArray } : Shared) = { s with heap := PyProof.Rows.sortedHeap (s1.heap.push (seqObj "list" vs.toArray 0)) s1.heap.objs.size vs out.toArray, gens := s1.gens, drawn := s1.drawn, toks := s1.toks } := by
      cases s1
      cases s
      cases o1
      rfl
    show EP X pins σ Q (.ref s1.heap.objs.size) { s1 with heap := PyProof.Rows.sortedHeap (s1.heap.push (seqObj "list" vs.toArray 0)) s1.heap.objs.size vs out.toArray }
    rw [e]
    exact ⟨.ref _, _, J, rfl, q _ hn⟩
end
end QX
set_option Elab.async false
set_option linter.all false
set_option maxRecDepth 100000
set_option maxHeartbeats 4000000
/-! Rules of our own, 3: x in a tuple of data, < of alike tuples, enumerate(tuple), tuple(dict), max of three, max and min of a tuple, str.index that finds. -/
namespace QX
open PySem PySem.Spec PyProof.Rows L2
section
variable {X : Cx}
/-- x in t, t a tuple of data of any depth -/
def rInU (K : PySem.W.Frag) : R2 := fun x y H Q => ∃ d ds, Dp K H x d ∧ Dp K H y (.tuple ds) ∧ SeqAt.shaped d = true ∧ SeqAt.shaped (.tuple ds) = true ∧ Q (.bl (ds.any fun z => PyData.eqv z d)) H
theorem op_inU (hu : X.A.units + 65 < cLine) : OpR X (compareOp .In) (rInU X.K) := by
  intro pins s σ H x y v u Q I rx ry ⟨d, ds, hd, he, sd, se, q⟩
  obtain ⟨as, c1⟩ := Dp.reads I d x v hd rx
  obtain ⟨bs, c2⟩ := Dp.reads I (.tuple ds) y u he ry
  exact SeqAt.in_tuple_reads c2 c1 (SeqAt.canLay_of_shaped se) (SeqAt.canLay_of_shaped sd) (room_in_shaped sd hu) ⟨.bl _, H, I, rfl, q⟩
/-- x < y, alike data -/
def rLtD (K : PySem.W.Frag) : R2 := fun x y H Q => ∃ d e, Dp K H x d ∧ Dp K H y e ∧ PySem.W.alike d e = true ∧ d ≠ .none ∧ d.depth ≤ 32 ∧ Q (.bl (PySem.W.dataLt d e)) H
theorem op_ltD (hu : X.A.units + 64 < cLine) : OpR X (compareOp .Lt) (rLtD X.K) := by
  intro pins s σ H x y v u Q I rx ry ⟨d, e, hd, he, al, nn, dp, q⟩
  obtain ⟨as, c1⟩ := Dp.reads I d x v hd rx
  obtain ⟨bs, c2⟩ := Dp.reads I e y u he ry
  exact PySem.W.rcLt_alike d e X.A s v u as bs c1 c2 al nn (by omega) X.prog X.w X.xe _ ⟨.bl _, H, I, rfl, q⟩
/-- s.index(t), found -/
def rIdx : V → List V → Hp → VK → Prop := fun x xs H Q => ∃ (a b : Str) (k : Nat) (rest : List Nat), x = .str a ∧ xs = [.str b] ∧ Builtin.Str.occurrences a b 0 a.length 1 = k :: rest ∧ Q (.int (k : Nat)) H
theorem mt_idx : MtR X "str.index" rIdx := by
  intro pins s σ H x xs v us Q I rx rs ⟨a, b, k, rest, e1, e2, q, w⟩
  subst e1; subst e2
  obtain ⟨t, rfl⟩ := rx
  cases rs with
  | cons r1 rs =>
    cases rs
    obtain ⟨u, rfl⟩ := r1
    exact PySem.SC.index q ⟨.int (k : Nat), H, I.tok _, ⟨_, rfl⟩, w⟩
/-- tuple(d), d a dict whose keys are tuples -/
def rTupD : List V → Hp → VK → Prop := fun xs H Q => ∃ d kvs, xs = [V.ref d] ∧ H d = some (.dT kvs) ∧ ∀ p bs, H p = none → IsKeys H kvs bs → Q (.ref p) (upd H p (.tup (bs.map V.ref)))
end
/-! ### enumerate(tuple) -/
/-- the tuple at a, each item in a new pair -/
def ItU (K : PySem.W.Frag) (a : Addr) : It :=
  ⟨fun i H => ∃ (xs : List V) (x : V), SqT K H a xs ∧ xs[i]? = some x, fun i H v H' => ∃ T x, v = .ref T ∧ H T = none ∧ H' = upd H T (.tup [.int (i : Nat), x]) ∧ ∀ xs, SqT K H a xs → xs[i]? = some x, fun i H => ∃ xs : List V, SqT K H a xs ∧ xs.length = i⟩
theorem turn_enumU {P : Program} {w : World} {K : PySem.W.Frag} {elts : List Expr} {kk : Nat} {tpos : Pos} (a e it : Addr) :
    Turn P w K (.Tuple elts kk tpos) (ItU K a) [e, it] e (fun i h => (∃ old, IsEnum h e it ((i : Nat) : Int) old) ∧ h.IsTupleIter it a i ∧ e ≠ it) where
  mem := by simp
  obj := by
    rintro i h ⟨⟨old, he⟩, ⟨o, ho, hc, hd⟩, _⟩ b hb
    have hb' : b = e ∨ b = it := by simpa using hb
    rcases hb' with z | z
    · rw [z]
      exact ⟨_, he, fun v q => by cases q⟩
    · exact ⟨o, by rw [z]; exact ho, fun v q => by rw [hd] at q; cases q⟩
  keep := by
    rintro i h h' ⟨⟨old, he⟩, hi, hne⟩ k
    exact ⟨⟨old, k e (by simp) _ he⟩, hi.at fun o q => k it (by simp) o q, hne⟩
  item := by
    intro X hP hw hK hc i pins s σ H E I hf st hg
    subst hP hw hK
    obtain ⟨⟨old, he⟩, hit, hne⟩ := st
    obtain ⟨xs, x, hq, hx⟩ := hg
    obtain ⟨its, rv, p, hz⟩ := I.tuple hq
    obtain ⟨u, hu, ru⟩ := rv.get hx
    have el : e < s.heap.objs.size := Heap.lt_size he
    have il : it < s.heap.objs.size := by
      obtain ⟨_, q, _⟩ := hit
      exact Heap.lt_size q
    have tup : s.heap.IsTuple a its.toArray := p
    have al : a < s.heap.objs.size := p.lt
    have hia : a ≠ it := fun z => by
      obtain ⟨o1, g1, c1, _⟩ := tup
      obtain ⟨o2, g2, c2, _⟩ := hit
      rw [z, g2] at g1
      have q := Option.some.inj g1
      rw [q, c1] at c2
      injection c2 with c3
      exact absurd c3 (by decide)
    have hea : e ∉ [it, a] := fun z => by
      rcases List.mem_cons.mp z with z | z
      · exact hne z
      · have z : e = a := List.mem_singleton.mp z
        obtain ⟨o1, g1, c1, _⟩ := tup
        rw [← z] at g1
        have g2 : s.heap.get? e = some _ := he
        rw [g2] at g1
        have q := Option.some.inj g1
        rw [← q] at c1
        injection c1 with c3
        exact absurd c3 (by decide)
    have hi : i < its.toArray.size := by
      have q := (List.getElem?_eq_some_iff.mp hu).1
      simpa using q
    refine wpAny_pyNext_enum_itemD (Draws.tuple (A := X.A.in1) (I.ok.hd hc) it a hia its.toArray) he ⟨hit, tup⟩ hi hne hea fun y h' tk hy ho st' hT hsz hk => ?_
    have hyu : y = u := by
      have q : its.toArray[i]? = some y := hy
      rw [List.getElem?_toArray, hu] at q
      exact (Option.some.inj q).symm
    subst hyu
    refine ⟨_, rfl, wpAny_letOwnedTupleGo_enum (s := { s with heap := h', toks := tk + 1 }) ho fun h'' he' sb => ?_⟩
    have hT2 : h''.get? s.heap.objs.size = some { cls := .type "tuple", data := .seq #[.int i tk, y] } := (sb.2 _ (Nat.ne_of_gt el)).trans hT
    have new : ObjOk X.prog X.w (upd H s.heap.objs.size (.tup [.int (i : Nat), x])) h'' s.heap.objs.size (.tup [.int (i : Nat), x]) :=
      ⟨by show 2 ≤ sizeLine; decide, [.int i tk, y], .cons ⟨_, rfl⟩ (.cons ru .nil), ⟨_, hT2, rfl, _, rfl⟩⟩
    have I1 : Inv X pins σ (upd H s.heap.objs.size (.tup [.int (i : Nat), x])) { s with heap := h'', toks := tk + 1 } :=
      I.turnedNew (ch := [e, it]) (fun b ob hb q => (sb.2 b (fun z => hb (by simp [z]))).trans (hk b ob (fun z => hb (by simp [z])) (fun z => hb (by simp [z])) q)) hf (Nat.le_refl _) new
    refine ⟨.ref s.heap.objs.size, _, I1, rfl, ⟨_, x, rfl, I.hok.fresh (Nat.le_refl _), rfl, fun ys hy => by rw [I.tuple_inj hy hq]; exact hx⟩, ⟨⟨y, ?_⟩, st'.1.at fun o q => (sb.2 it (Ne.symm hne)).trans q, hne⟩, fun b hb => ?_⟩
    · have e1 : ((i + 1 : Nat) : Int) = (i : Int) + 1 := by omega
      rw [e1]
      exact he'
    · have lt : b < s.heap.objs.size := by
        have hb' : b = e ∨ b = it := by simpa using hb
        rcases hb' with z | z
        · rw [z]; exact el
        · rw [z]; exact il
      rw [upd_ne (Nat.ne_of_lt lt)]
      exact (hf b hb).1
  done := by
    intro X hP hw hK hc i pins s σ H E I hf st hg
    subst hP hw hK
    obtain ⟨⟨old, he⟩, hit, hne⟩ := st
    obtain ⟨xs, hq, hx⟩ := hg
    obtain ⟨its, rv, p, hz⟩ := I.tuple hq
    obtain ⟨f0, f1, f2, f3, f4, f5⟩ := hf it (by simp)
    have hl := rv.length
    have tup : s.heap.IsTuple a its.toArray := p
    have hia : a ≠ it := fun z => by
      obtain ⟨o1, g1, c1, _⟩ := tup
      obtain ⟨o2, g2, c2, _⟩ := hit
      rw [z, g2] at g1
      have q := Option.some.inj g1
      rw [q, c1] at c2
      injection c2 with c3
      exact absurd c3 (by decide)
    have hn : its.toArray.size = i := by simp; omega
    subst hn
    exact wpAny_pyNext_enum_endD (Draws.tuple (A := X.A.in1) (I.ok.hd hc) it a hia its.toArray) he ⟨hit, tup⟩ fun h' eb => ⟨rfl, I.turned (t' := s.toks) (fun b o hb q => eb b o hb q) f0 f1 f3 f4 f5⟩
  self := fun A i s Q E st h => let ⟨⟨_, he⟩, _⟩ := st; wpAny_pyIter_enum he h
theorem walk_enumU {K : PySem.W.Frag} {a : Addr} {xs : List V} : Walk (ItU K a) xs.length (fun H => SqT K H a xs) (YPair (fun i => some (.int (i : Nat))) (fun i => xs[i]?)) := by
  refine ⟨fun i _ hi q => ⟨xs, xs[i], q, by simp [hi]⟩, fun _ q => ⟨xs, q, rfl⟩, fun i H v H' _ q y => ?_⟩
  obtain ⟨T, x, h1, h2, h3, h4⟩ := y
  exact ⟨T, .int (i : Nat), x, h1, h2, h3, rfl, h4 xs q⟩
section
open Sem (wp)
open AutoSeq1 (wpAny_loadPart')
theorem meets_enumU (l : Addr) (items : Array Value) (o : Obj) (hoc : o.cls = .type "tuple") (n : Nat) (hod : o.data = .seq items n) :
    Meets (Builtin.«enumerate.__new__» ⟨[.type "enumerate", .ref l], []⟩) (fun _ R s => s.heap.get? l = some o ∧
      R (.ok (.ret (.ref (s.heap.push { cls := .type "tuple_iterator", data := .fields #[.ref l, .int 0 0] }).objs.size)))
        { s with heap := (s.heap.push { cls := .type "tuple_iterator", data := .fields #[.ref l, .int 0 0] }).push { cls := .type "enumerate", data := .fields #[.none, .bool false, .ref s.heap.objs.size, rawInt 0, .none, .none] } }) :=
  .of_wp fun prog w A R s h => by
    obtain ⟨oc, od, dt, sl⟩ := o
    simp only at hoc hod
    subst hoc; subst hod
    obtain ⟨hp, g, d, tk, os⟩ := s
    obtain ⟨hl, h⟩ := h
    have hsub := sub_enumerate
    have hL : Heap.IsTuple (Shared.heap ⟨hp, g, d, tk, os⟩) l items := ⟨_, hl, rfl, n, rfl⟩
    wp_walk using wpAny_loadPart' hl
    refine wpAny_stack_any fun st => wpAny_pure ?_
    split
    · rename_i c _ _ _ _ _
      cases (c == Value.type "enumerate")
      · wp_walk using wpAny_loadPart' hl, wpAny_pyIter_tuple hL
        exact ⟨_, rfl, h⟩
      · wp_walk using wpAny_loadPart' hl, wpAny_pyIter_tuple hL
        exact ⟨_, rfl, h⟩
    · wp_walk using wpAny_loadPart' hl, wpAny_pyIter_tuple hL
      exact ⟨_, rfl, h⟩
variable {prog : Program} {w : World} {A : Around} {E : Value → Shared → Prop} {s : Shared}
theorem call_enumU {l : Addr} {items : Array Value} {Q : Value → Shared → Prop} (hL : s.heap.IsTuple l items)
    (h : ∀ h', IsEnum h' (s.heap.objs.size + 1) s.heap.objs.size 0 .none → h'.IsTupleIter s.heap.objs.size l 0 → h'.objs.size = s.heap.objs.size + 2 →
      (∀ b o, s.heap.get? b = some o → h'.get? b = some o) → Q (.ref (s.heap.objs.size + 1)) { s with heap := h' }) :
    wpAny (model prog w) A (call (.type "enumerate") [.ref l]) Q E s := by
  obtain ⟨o, hl, hc, n, hd⟩ := hL
  refine callType_new F.called_enumerate (by decide) (F.typeCall_enumerate_1 _) (F.newCall_enumerate_1 _) (fun obj => F.args_object_init_2 obj _) F.entry_enumerate_new
    (meets_enumU l items o hc n hd) ⟨hl, ?_⟩
  have hz : (s.heap.push { cls := .type "tuple_iterator", data := .fields #[.ref l, .int 0 0] }).objs.size = s.heap.objs.size + 1 := Heap.size_push ..
  show _ ∧ _
  rw [hz]
  have he : IsEnum ((s.heap.push { cls := .type "tuple_iterator", data := .fields #[.ref l, .int 0 0] }).push
      { cls := .type "enumerate", data := .fields #[.none, .bool false, .ref s.heap.objs.size, rawInt 0, .none, .none] }) (s.heap.objs.size + 1) s.heap.objs.size 0 .none := by
    have q := Heap.get?_push_size (s.heap.push { cls := .type "tuple_iterator", data := .fields #[.ref l, .int 0 0] })
      (o := { cls := .type "enumerate", data := .fields #[.none, .bool false, .ref s.heap.objs.size, rawInt 0, .none, .none] }) rfl
    rw [hz] at q
    exact q
  exact ⟨⟨_, he, rfl⟩, h _ he ⟨_, Heap.get?_push_of_some _ (Heap.get?_push_size _ rfl), rfl, rfl⟩ (by rw [Heap.size_push, hz]) fun b o x => Heap.get?_push_of_some _ (Heap.get?_push_of_some _ x)⟩
end
def iEnumU (K : PySem.W.Frag) (ta : TA) : TI := fun σ H R => ta σ H fun vs H1 => ∃ a xs, vs = [.ref a] ∧ SqT K H1 a xs ∧ R (ItU K a) H1
theorem pi_enumU {X : Cx} {e : Expr} {ta : TA} {p pos tpos : Pos} {elts : List Expr} {kk : Nat} (hg : Gl X "enumerate") (hm : X.mg "enumerate" = none) (ha : PA X [e] ta) (hs : starEach [e] X.env = [(false, eval e X.env)] := by rfl) :
    PI X (.Tuple elts kk tpos) (.Call (.Name "enumerate" p) [e] [] pos) (iEnumU X.K ta) := by
  refine ⟨fun pins s σ H R I h => ?_⟩
  refine Call_ (ld_blt I hg hm boot_enumerate (PyProof.Rows.callWith_type1 (thn (ha.run pos pins s σ H _ I h) fun us s1 ⟨vs, H1, I1, r1, a, xs, ex, hq, q⟩ => ?_) hs rfl))
  subst ex
  cases r1 with
  | cons r rr =>
    cases rr
    cases r
    obtain ⟨its, rv, p', hz⟩ := I1.tuple hq
    refine call_enumU (show s1.heap.IsTuple a its.toArray from p') fun h' he hit hsz hk => wpAny_pyIter_enum he ?_
    have I2 : Inv X pins σ H1 { s1 with heap := h' } := I1.kept (t' := s1.toks) hk
    refine ⟨s1.heap.objs.size + 1, [s1.heap.objs.size + 1, s1.heap.objs.size], _, _, H1, rfl, I2, turn_enumU a (s1.heap.objs.size + 1) s1.heap.objs.size, ⟨⟨.none, he⟩, hit, Nat.succ_ne_self _⟩, fun b hb => ?_, q⟩
    have hb' : b = s1.heap.objs.size + 1 ∨ b = s1.heap.objs.size := by simpa using hb
    have le : s1.heap.objs.size ≤ b := by
      rcases hb' with z | z
      · rw [z]; exact Nat.le_add_right _ _
      · rw [z]; exact Nat.le_refl _
    exact I1.fpOk le (I1.hok.fresh le)
end QX
set_option Elab.async false
set_option linter.all false
set_option maxRecDepth 100000
set_option maxHeartbeats 4000000
/-! Rules of our own, 4: min(xs, default=None) of items that are compared in the heap; max, min of a tuple of ints; max of three ints; tuple(dict). -/
namespace QX
open PySem PySem.Spec PyProof.Rows L2
section
variable {prog : Program} {w : World} {A : Around} {R : Result → Shared → Prop} {h0 : Heap} {l I S : Addr} {its : List Value} {kw : List (Str × Value)} {bt : Nat → Nat → Bool}
/-- what stood stands -/
def Kept (h0 h : Heap) : Prop := ∀ b o, h0.get? b = some o → h.get? b = some o
theorem minD_loop (hh : A.handled = none) (hl : h0.IsList l its.toArray) (hlI : l ≠ I) (hSI : S ≠ I) (fI : h0.get? I = none) (fS : h0.get? S = none)
    (tr : ∀ a b c, bt a b = true → bt b c = true → bt a c = true) (ir : ∀ a, bt a a = false)
    (hcmp : ∀ (i j : Nat) (u v : Value) (s : Shared) (Q : Value → Shared → Prop) (E : Value → Shared → Prop), Kept h0 s.heap → its[i]? = some u → its[j]? = some v → Q (.bool (bt i j)) s → wpAny (model prog w) A.in1 (richCompare .Lt u v) Q E s) :
    ∀ (r j i : Nat) (s : Shared) (vb : Value) (c : Nat), its.length - (j + 1) = r → j + 1 ≤ its.length → Kept h0 s.heap → s.heap.IsListIter I l (j + 1) →
      s.heap.get? S = some { cls := .type "list", dict := none, data := .seq #[vb, vb] c, slots := #[] } → its[i]? = some vb → i ≤ j → (∀ k, k ≤ j → bt k i = false) →
      (∀ k v h' tk, its[k]? = some v → (∀ m, m < its.length → bt m k = false) → Kept h0 h' → R (.ok (.ret v)) { s with heap := h', toks := tk }) →
      codeAny (model prog w) A (.builtin "min.loop" ⟨[.ref I, .none, .ref S], kw⟩) R s := by
  have nm : (toString "min" ++ toString ".loop" : String) = "min.loop" := by decide
  have W := Walks.list (prog := prog) (w := w) (A := A.in1) hh I l hlI its.toArray
  have sz : its.toArray.size = its.length := List.size_toArray ..
  have islist : ∀ h, Kept h0 h → h.IsList l its.toArray := fun h k => by
    obtain ⟨o, e, q⟩ := hl
    exact ⟨o, k l o e, q⟩
  have keepI : ∀ {h h' : Heap}, Kept h0 h → (∀ b o, b ∉ [I] → h.get? b = some o → h'.get? b = some o) → Kept h0 h' := fun k k' b o e =>
    k' b o (fun z => by rw [List.mem_singleton.mp z, fI] at e; cases e) (k b o e)
  have keepS : ∀ {h : Heap} (f : Obj → Obj), Kept h0 h → Kept h0 (h.update S f) := fun f k b o e =>
    (Heap.get?_update_other _ _ (fun z => by rw [← z, fS] at e; cases e)).trans (k b o e)
  intro r
  induction r with
  | zero =>
    intro j i s vb c er ej kp hit hS hvb hij best hR
    have ln : j + 1 = its.length := by omega
    refine codeAny_builtin PySem.F.entry_min_loop ?_
    rw [Around.under_plainId PySem.F.plain_min_loop _]
    show wpAny _ A.in1 (seqItems? (.ref S) >>= _) _ _ s
    refine wpAny_bind (wpAny_seqItems hS rfl ?_)
    show wpAny _ A.in1 (tryCatch (pyNext (.ref I)) _ >>= _) _ _ s
    refine wpAny_bind (wpAny_tryCatch (W.done s _ _ ⟨by rw [sz, ← ln]; exact hit, islist _ kp⟩ fun h' tk hk => ?_))
    have kp' := keepI kp hk
    have hS' := hk S _ (by simpa using hSI) hS
    show wpAny _ A.in1 (updateSeq S (fun _ => #[]) >>= _) _ _ _
    refine wpAny_bind ?_
    refine wpAny_updateSeq hS' rfl (wpAny_bind (wpAny_letGo (wpAny_pure ?_)))
    exact hR i vb _ tk hvb (fun m hm => best m (by omega)) (keepS _ kp')
  | succ r ih =>
    intro j i s vb c er ej kp hit hS hvb hij best hR
    have lt : j + 1 < its.length := by omega
    refine codeAny_builtin PySem.F.entry_min_loop ?_
    rw [Around.under_plainId PySem.F.plain_min_loop _]
    show wpAny _ A.in1 (seqItems? (.ref S) >>= _) _ _ s
    refine wpAny_bind (wpAny_seqItems hS rfl ?_)
    show wpAny _ A.in1 (tryCatch (pyNext (.ref I)) _ >>= _) _ _ s
    refine wpAny_bind (wpAny_tryCatch (W.item (j + 1) s _ _ (by rw [sz]; exact lt) ⟨hit, islist _ kp⟩ fun v h' tk hP st' hk => ?_))
    have kp' := keepI kp hk
    have hS' := hk S _ (by simpa using hSI) hS
    have hv : its[j + 1]? = some v := by simpa using hP
    show wpAny _ A.in1 (tryCatch (holding [v, v] (richCompare .Lt v vb >>= _)) _ >>= _) _ _ _
    refine wpAny_bind (wpAny_tryCatch (wpAny_holding (wpAny_bind (hcmp (j + 1) i v vb _ _ _ kp' hv hvb ?_))))
    refine wpAny_bind (wpAny_holding (wpAny_truthy_bool ?_))
    refine wpAny_bind (wpAny_letGo (wpAny_pure ?_))
    cases hb : bt (j + 1) i with
    | true =>
      simp only [if_true]
      refine wpAny_bind ?_
      refine wpAny_updateSeq hS' rfl (wpAny_bind (wpAny_letGo ?_))
      rw [nm]
      refine wpAny_pure ⟨plainId_quiet PySem.F.plain_min_loop _, ih (j + 1) (j + 1) _ v _ (by omega) lt (keepS _ kp') ?_ (Heap.get?_update_self _ hS' rfl) hv (Nat.le_refl _) ?_ ?_⟩
      · obtain ⟨o, e, q⟩ := st'.1
        exact ⟨o, (Heap.get?_update_other _ _ hSI).trans e, q⟩
      · intro k hk'
        by_cases e : k = j + 1
        · rw [e]; exact ir _
        · cases q : bt k (j + 1) with
          | false => rfl
          | true =>
            have z := tr _ _ _ q hb
            rw [best k (by omega)] at z
            cases z
      · exact fun k u h2 t2 e1 e2 e3 => hR k u h2 t2 e1 e2 e3
    | false =>
      simp only [Bool.false_eq_true, if_false]
      refine wpAny_bind (wpAny_letGo ?_)
      rw [nm]
      refine wpAny_pure ⟨plainId_quiet PySem.F.plain_min_loop _, ih (j + 1) i _ vb c (by omega) lt kp' st'.1 hS' hvb (by omega) ?_ ?_⟩
      · intro k hk'
        by_cases e : k = j + 1
        · rw [e]; exact hb
        · exact best k (by omega)
      · exact fun k u h2 t2 e1 e2 e3 => hR k u h2 t2 e1 e2 e3
end
section
variable {prog : Program} {w : World} {A : Around} {E : Value → Shared → Prop} {s : Shared} {l : Addr} {its : List Value} {bt : Nat → Nat → Bool}
theorem minD_args (a v : Value) : argsOk "min" ⟨[a], [(Str.ofString "default", v)]⟩ := by unfold argsOk; kernel_rfl
theorem minD_call {Q : Value → Shared → Prop} (hh : A.handled = none) (hl : s.heap.IsList l its.toArray)
    (tr : ∀ a b c, bt a b = true → bt b c = true → bt a c = true) (ir : ∀ a, bt a a = false)
    (hcmp : ∀ (i j : Nat) (u v : Value) (z : Shared) (Q : Value → Shared → Prop) (E : Value → Shared → Prop), Kept s.heap z.heap → its[i]? = some u → its[j]? = some v → Q (.bool (bt i j)) z → wpAny (model prog w) A.in1 (richCompare .Lt u v) Q E z)
    (q0 : its = [] → ∀ h' tk, Kept s.heap h' → Q .none { s with heap := h', toks := tk })
    (q1 : ∀ k v h' tk, its[k]? = some v → (∀ m, m < its.length → bt m k = false) → Kept s.heap h' → Q v { s with heap := h', toks := tk }) :
    wpAny (model prog w) A (call (.builtin "min") [.ref l] [(Str.ofString "default", .none)]) Q E s := by
  have nm : (toString "min" ++ toString ".loop" : String) = "min.loop" := by decide
  obtain ⟨ol, hol, _⟩ := id hl
  have ll : l < s.heap.objs.size := Heap.lt_size hol
  refine kmk_tree PySem.F.kind_min PySem.F.plain_min PySem.F.entry_min (minD_args _ _) ?_
  show wpAny _ A.in1 (Builtin.Builtins.bindParams "min" ["key", "default"] 0 ⟨[], [(Str.ofString "default", .none)]⟩ >>= _) _ _ s
  refine wpAny_bind (wpAny_of_eq (show Builtin.Builtins.bindParams "min" ["key", "default"] 0 ⟨[], [(Str.ofString "default", .none)]⟩ = pure [none, some .none] from rfl) ?_)
  refine wpAny_bind (wpAny_pure ?_)
  refine wpAny_bind (wpAny_pyIter_list hl ?_)
  refine wpAny_bind (wpAny_newList ?_ (Nat.zero_le _))
  rw [nm]
  have zS : (s.heap.push { cls := .type "list_iterator", data := .fields #[.ref l, .int 0 0] }).objs.size = s.heap.objs.size + 1 := size_push' ..
  have nlI : l ≠ s.heap.objs.size := Nat.ne_of_lt ll
  have nSI : (s.heap.push { cls := .type "list_iterator", data := .fields #[.ref l, .int 0 0] }).objs.size ≠ s.heap.objs.size := by rw [zS]; exact Nat.ne_of_gt (Nat.lt_succ_self _)
  have fI : s.heap.get? s.heap.objs.size = none := Heap.get?_none_of_le (Nat.le_refl _)
  have fS : s.heap.get? (s.heap.push { cls := .type "list_iterator", data := .fields #[.ref l, .int 0 0] }).objs.size = none := Heap.get?_none_of_le (by rw [zS]; exact Nat.le_succ _)
  refine wpAny_pure ⟨plainId_quiet PySem.F.plain_min_loop _, ?_⟩
  have k0 : Kept s.heap ((s.heap.push { cls := .type "list_iterator", data := .fields #[.ref l, .int 0 0] }).push (seqObj "list" #[] 0)) := fun b o e => Heap.get?_push_of_some _ (Heap.get?_push_of_some _ e)
  have gI : ((s.heap.push { cls := .type "list_iterator", data := .fields #[.ref l, .int 0 0] }).push (seqObj "list" #[] 0)).get? s.heap.objs.size = some { cls := .type "list_iterator", data := .fields #[.ref l, .int 0 0] } :=
    Heap.get?_push_of_some _ (Heap.get?_push_size _ rfl)
  have gS : ((s.heap.push { cls := .type "list_iterator", data := .fields #[.ref l, .int 0 0] }).push (seqObj "list" #[] 0)).get? (s.heap.push { cls := .type "list_iterator", data := .fields #[.ref l, .int 0 0] }).objs.size = some (seqObj "list" #[] 0) := Heap.get?_push_size _ rfl
  have W := Walks.list (prog := prog) (w := w) (A := A.in1.in1) hh s.heap.objs.size l nlI its.toArray
  have sz : its.toArray.size = its.length := List.size_toArray ..
  have isl : ((s.heap.push { cls := .type "list_iterator", data := .fields #[.ref l, .int 0 0] }).push (seqObj "list" #[] 0)).IsList l its.toArray := (hl.push _).push _
  have keepI : ∀ {h h' : Heap}, Kept s.heap h → (∀ b o, b ∉ [s.heap.objs.size] → h.get? b = some o → h'.get? b = some o) → Kept s.heap h' := fun k k' b o e =>
    k' b o (fun z => by rw [List.mem_singleton.mp z, fI] at e; cases e) (k b o e)
  have keepS : ∀ {h : Heap} (f : Obj → Obj), Kept s.heap h → Kept s.heap (h.update (s.heap.push { cls := .type "list_iterator", data := .fields #[.ref l, .int 0 0] }).objs.size f) := fun f k b o e =>
    (Heap.get?_update_other _ _ (fun z => by rw [← z, fS] at e; cases e)).trans (k b o e)
  refine codeAny_builtin PySem.F.entry_min_loop ?_
  rw [Around.under_plainId PySem.F.plain_min_loop _]
  show wpAny _ _ (seqItems? (.ref _) >>= _) _ _ _
  refine wpAny_bind (wpAny_seqItems gS rfl ?_)
  show wpAny _ _ (tryCatch (pyNext (.ref s.heap.objs.size)) _ >>= _) _ _ _
  cases hits : its with
  | nil =>
    subst hits
    refine wpAny_bind (wpAny_tryCatch (wpAny_of_in1 (W.done _ _ _ ⟨⟨_, gI, rfl, rfl⟩, isl⟩ fun h' tk hk => ?_)))
    refine wpAny_bind (wpAny_rule ?_)
    exact wpAny_pure (q0 rfl h' tk (keepI k0 hk))
  | cons v0 rest =>
    have hlen : 0 < its.length := by rw [hits]; exact Nat.succ_pos _
    refine wpAny_bind (wpAny_tryCatch (wpAny_of_in1 (W.item 0 _ _ _ (by rw [sz]; exact hlen) ⟨⟨_, gI, rfl, rfl⟩, isl⟩ fun v h' tk hP st' hk => ?_)))
    have hv : its[0]? = some v := by simpa using hP
    have kp' := keepI k0 hk
    have gS' := hk _ _ (by simpa using nSI) gS
    show wpAny _ _ (updateSeq _ (fun _ => #[v, v]) >>= _) _ _ _
    refine wpAny_bind ?_
    refine wpAny_updateSeq gS' rfl ?_
    rw [nm]
    refine wpAny_pure ⟨plainId_quiet PySem.F.plain_min_loop _, minD_loop (A := A) hh hl nlI nSI fI fS tr ir hcmp _ 0 0 _ v _ rfl hlen (keepS _ kp') ?_ (Heap.get?_update_self _ gS' rfl) hv (Nat.le_refl _) ?_ ?_⟩
    · obtain ⟨o, e, q⟩ := st'.1
      exact ⟨o, (Heap.get?_update_other _ _ nSI).trans e, q⟩
    · intro k hk'
      have : k = 0 := by omega
      rw [this]
      exact ir 0
    · exact fun k u h2 t2 e1 e2 e3 => q1 k u h2 t2 e1 e2 e3
end
end QX
set_option Elab.async false
set_option linter.all false
set_option maxRecDepth 100000
set_option maxHeartbeats 4000000
/-! Rules of our own, 5: the calls by values. -/
namespace QX
open PySem PySem.Spec PyProof.Rows L2
/-! ### tuple(d) -/
section
variable {prog : Program} {w : World} {A : Around} {E : Value → Shared → Prop} {s : Shared} {d : Addr} {o : Obj} {es : Array DictEntry} {ep : Nat}
theorem collectD {Q : List Value → Shared → Prop} (hh : A.handled = none) (lo : (d == sysModules) = false) (hx : o.ExactDict) (hd : o.data = .dict es ep) (ho : s.heap.get? d = some o) (hsz : es.size ≤ sizeLine)
    (hQ : ∀ (h' : Heap) (tk : Nat) (acc : Array Value), Kept s.heap h' → ItemsOf (fun i v => ∃ en : DictEntry, es[i]? = some en ∧ v = en.key) acc es.size → Q acc.toList { s with heap := h', toks := tk }) :
    wpAny (model prog w) A (collect (.ref d)) Q E s := by
  have dl : d < s.heap.objs.size := Heap.lt_size ho
  unfold collect
  refine wpAny_bind (wpAny_runValue (codeAny_builtin F.entry_proto_collect ?_))
  rw [Around.under_plainId F.plain_proto_collect _]
  show wpAny _ A.in1 (newList [] >>= fun z => again (.builtin "list.__iadd__" ⟨[z, .ref d], []⟩)) _ _ s
  refine wpAny_bind (wpAny_newObj_type ?_)
  refine wpAny_pure ⟨plainId_quiet F.plain_list_iadd _, codeAny_builtin F.entry_list_iadd ?_⟩
  rw [Around.under_plainId F.plain_list_iadd _]
  show wpAny _ A.in1 (Builtin.List.listExtendWith (.ref s.heap.objs.size) (.ref d) (.ref s.heap.objs.size)) _ _ _
  have gS : (s.heap.push { cls := .type "list", data := .seq ([] : List Value).toArray }).get? s.heap.objs.size = some { cls := .type "list", data := .seq #[] 0 } := Heap.get?_push_size _ rfl
  have nS : s.heap.objs.size ≠ d := Nat.ne_of_gt dl
  refine wpAny_mono (PySem.W.kdl_extend (A := A) (R := fun rr z => rr = .ok (.ret (.ref s.heap.objs.size)) ∧ ∃ (h' : Heap) (tk : Nat) (acc : Array Value) (c' : Nat), z = { s with heap := h', toks := tk } ∧ Kept s.heap h' ∧
      h'.get? s.heap.objs.size = some { cls := .type "list", dict := none, data := .seq acc c', slots := #[] } ∧ ItemsOf (fun i v => ∃ en : DictEntry, es[i]? = some en ∧ v = en.key) acc es.size)
    (s := { s with heap := s.heap.push { cls := .type "list", data := .seq ([] : List Value).toArray } }) (kdl_raw (prog := prog) (w := w) (d := d) (o := o) lo hx hd) hh (Heap.get?_push_of_some _ ho) s.heap.objs.size nS nS _ 0 gS
    (fun h' tk acc c' k e it => ⟨rfl, h', tk, acc, c', rfl, fun b u q => k b u (Nat.ne_of_lt (Heap.lt_size q)) (Heap.get?_push_of_some _ q), e, it⟩) hsz) (fun fin z h => ?_) (fun e z h => ?_)
  · cases fin with
    | done f =>
      obtain ⟨e, h', tk, acc, c', rfl, k, gS', it⟩ := h
      cases e
      show wpAny _ A (load s.heap.objs.size >>= _) _ _ _
      exact wpAny_bind (wpAny_load gS' (wpAny_pure (hQ h' tk acc k it)))
    | again c' =>
      refine ⟨h.1, codeAny_mono h.2 fun rr z2 hr => ?_⟩
      obtain ⟨rfl, h', tk, acc, c', rfl, k, gS', it⟩ := hr
      show wpAny _ A (load s.heap.objs.size >>= _) _ _ _
      exact wpAny_bind (wpAny_load gS' (wpAny_pure (hQ h' tk acc k it)))
  · exact absurd h.1 (by simp)
theorem code_tupD {Z : Value → Shared → Prop} (hh : A.handled = none) (lo : (d == sysModules) = false) (hx : o.ExactDict) (hd : o.data = .dict es ep) (ho : s.heap.get? d = some o) (hsz : es.size ≤ sizeLine)
    (h : ∀ (h' : Heap) (tk : Nat) (acc : Array Value), Kept s.heap h' → ItemsOf (fun i v => ∃ en : DictEntry, es[i]? = some en ∧ v = en.key) acc es.size →
      Z (.ref h'.objs.size) { s with heap := h'.push { cls := .type "tuple", data := .seq acc }, toks := tk }) :
    codeAny (model prog w) A (.call (.builtin "tuple.__new__") ⟨[.type "tuple", .ref d], []⟩) (wants Z E) s := by
  refine codeAny_of_tree ?_
  show wpAny _ A.in1 (do checkBuiltinCall "tuple.__new__" ⟨[.type "tuple", .ref d], []⟩; again (.builtin "tuple.__new__" ⟨[.type "tuple", .ref d], []⟩)) _ _ s
  refine wpAny_bind (wpAny_of_eq (F.newCall_tuple_1 _) (wpAny_pure ⟨plainId_quiet F.plain_tuple_new _, codeAny_builtin F.entry_tuple_new ?_⟩))
  rw [Around.under_plainId F.plain_tuple_new _]
  have m1 := sub_tuple_self
  have m2 := init_tuple_lookup
  have m3 := madeHere_tuple
  have ty : s.TypeIs (.ref d) "dict" := ⟨_, ho, hx.1⟩
  have h1 : A.in1.handled = none := hh
  wp_walk using wpAny_typeOf ty, collectD (A := A.in1) h1 lo hx hd ho hsz
  intro h' tk acc k it
  show wpAny _ _ (Builtin.Tuple.tupleExact acc.toList.toArray >>= fun v => ret v) _ _ _
  unfold Builtin.Tuple.tupleExact
  have e : acc.toList.toArray = acc := by simp
  rw [e]
  refine wpAny_bind (wpAny_newObj_type (wpAny_pure (h h' tk acc k it)) (by show acc.size ≤ sizeLine; rw [it.1]; exact hsz))
theorem tupD_call {Q : Value → Shared → Prop} (hh : A.handled = none) (lo : (d == sysModules) = false) (hx : o.ExactDict) (hd : o.data = .dict es ep) (ho : s.heap.get? d = some o) (hsz : es.size ≤ sizeLine)
    (hQ : ∀ (h' : Heap) (tk : Nat) (acc : Array Value), Kept s.heap h' → ItemsOf (fun i v => ∃ en : DictEntry, es[i]? = some en ∧ v = en.key) acc es.size →
      Q (.ref h'.objs.size) { s with heap := h'.push { cls := .type "tuple", data := .seq acc }, toks := tk }) :
    wpAny (model prog w) A (call (.type "tuple") [.ref d]) Q E s := by
  refine callType_codes (Q₁ := fun v z => z.TypeIs v "tuple" ∧ Q v z) F.called_tuple (F.typeCall_tuple_1 _) F.entry_object_init
    (code_tupD (A := A.in1) hh lo hx hd ho hsz fun h' tk acc k it => ⟨⟨_, Heap.get?_push_size _ rfl, rfl⟩, hQ h' tk acc k it⟩) fun v z hz => ?_
  exact ⟨hz.1, F.args_object_init_2 v _, object_init_meets F.called_tuple.init.lookup F.called_tuple.made (by decide) prog w A.in1 _ z ⟨hz.1, rfl, hz.2⟩⟩
end
section
variable {X : Cx}
theorem call_tupD (hc : X.calm = true) : CallR X (.type "tuple") rTupD := by
  intro pins s σ H xs us Q I r ⟨d, kvs, e, hd, q⟩
  subst e
  obtain ⟨u, rfl, rx⟩ := r.one
  cases rx
  obtain ⟨z, lo, ks, pr, o, es, ep, ho, hx, hdt, he, hn⟩ := (show ObjOk X.prog X.w H s.heap d (.dT kvs) from I.hok d _ hd)
  have l1 : es.size = ks.length := size_of_entries he
  have l2 : kvs.length = ks.length := Paired.length pr
  refine tupD_call (I.ok.hd hc) lo hx hdt ho (by omega) fun h' tk acc k it => ?_
  have ea : acc.toList = (ks.map fun x => x.2.1).map Value.ref := by
    apply List.ext_getElem?
    intro j
    by_cases hj : j < ks.length
    · have hja : j < acc.size := by rw [it.1, l1]; exact hj
      obtain ⟨en, g1, g2⟩ := it.2 j acc[j] (Array.getElem?_eq_getElem hja)
      have qe := entry_at he j
      rw [g1, List.getElem?_eq_getElem hj] at qe
      have e2 : en = entryOfKey (tupleKind (mixKind X.prog X.w)) ks[j] := Option.some.inj qe
      rw [Array.getElem?_toList, Array.getElem?_eq_getElem hja, g2, e2, List.getElem?_map, List.getElem?_map, List.getElem?_eq_getElem hj]
      rfl
    · rw [List.getElem?_eq_none (by rw [Array.length_toList, it.1, l1]; omega), List.getElem?_eq_none (by rw [List.length_map, List.length_map]; omega)]
  have I1 : Inv X pins σ H { s with heap := h', toks := tk } := I.kept (t' := tk) k
  have rv : Vals ((ks.map fun x => x.2.1).map V.ref) acc.toList := by rw [ea]; exact vals_refs _
  have hz : ((ks.map fun x => x.2.1).map V.ref).length ≤ sizeLine := by rw [List.length_map, List.length_map]; omega
  have new : IsTup (h'.push { cls := .type "tuple", data := .seq acc }) h'.objs.size acc.toList.toArray := by
    rw [Array.toArray_toList]
    exact IsTup.new _ _
  exact ⟨.ref h'.objs.size, _, I1.laid (t' := tk) (o := .tup ((ks.map fun x => x.2.1).map V.ref)) (fun b o e => Heap.get?_push_of_some _ e) (Nat.le_refl _) ⟨hz, acc.toList, rv, new⟩, rfl, q _ _ (I1.hok.fresh (Nat.le_refl _)) (isKeys_of pr)⟩
/-! ### max(t), min(t) of a tuple of ints -/
def rMaxU (K : PySem.W.Frag) : List V → Hp → VK → Prop := fun vs H Q => ∃ (a : Addr) (ns : List Int), vs = [V.ref a] ∧ SqT K H a (ns.map V.int) ∧ 0 < ns.length ∧ ∀ m, m ∈ ns → (∀ y, y ∈ ns → y ≤ m) → Q (.int m) H
def rMinU (K : PySem.W.Frag) : List V → Hp → VK → Prop := fun vs H Q => ∃ (a : Addr) (ns : List Int), vs = [V.ref a] ∧ SqT K H a (ns.map V.int) ∧ 0 < ns.length ∧ ∀ m, m ∈ ns → (∀ y, y ∈ ns → m ≤ y) → Q (.int m) H
theorem getD_in {ns : List Int} {i : Nat} (h : i < ns.length) : ns.getD i 0 ∈ ns := by
  rw [List.getD_eq_getElem?_getD, List.getElem?_eq_getElem h]
  exact List.getElem_mem h
theorem in_getD {ns : List Int} {y : Int} (h : y ∈ ns) : ∃ i, i < ns.length ∧ ns.getD i 0 = y := by
  obtain ⟨i, hi, e⟩ := List.mem_iff_getElem.mp h
  refine ⟨i, hi, ?_⟩
  rw [List.getD_eq_getElem?_getD, List.getElem?_eq_getElem hi, ← e]
  rfl
theorem int_of {its : List Value} {ns : List Int} (hi : IntsAre its ns) (i : Nat) (v : Value) (h : its.toArray[i]? = some v) : ∃ t, v = .int (ns.getD i 0) t :=
  IntsAre.int_at hi i v (by rw [← List.getElem?_toArray]; exact h)
theorem cr_maxU (hc : X.calm = true) : CallR X (.builtin "max") (rMaxU X.K) := by
  intro pins s σ H vs us Q I r ⟨a, ns, e, hs, hne, q⟩
  subst e
  obtain ⟨its, rv, p, _⟩ := I.tuple hs
  rw [Vals.ref1 r]
  have hi := intsAre_of rv
  have hl : its.length = ns.length := by rw [← rv.length, List.length_map]
  have tup : s.heap.IsTuple a its.toArray := p
  have al : a < s.heap.objs.size := p.lt
  refine call_max_walk (wpAny_pyIter_tuple tup ?_)
  refine ⟨s.heap.objs.size, [s.heap.objs.size, a], [s.heap.objs.size], its.toArray.size, _, _, fun i j => decide (ns.getD i 0 > ns.getD j 0), rfl,
    Walks.tuple (A := X.A.in1) (I.ok.hd hc) _ a (Nat.ne_of_lt al) its.toArray, ⟨⟨_, Heap.get?_push_size _ rfl, rfl, rfl⟩, tup.push _⟩, fun b hb => ?_, by simp; omega, CmpOf.ints_gt (fun i => ns.getD i 0) (fun i v h => int_of hi i v h), fun v h' tk hv k => ?_⟩
  · show b < (s.heap.push _).objs.size
    rw [size_push']
    rcases List.mem_cons.mp hb with z | z
    · rw [z]
      exact Nat.lt_succ_self _
    · rw [List.mem_singleton.mp z]
      exact Nat.lt_succ_of_lt al
  · obtain ⟨t, rfl⟩ := int_of hi _ _ hv
    have sz : its.toArray.size = ns.length := by simp; omega
    rw [sz]
    obtain ⟨b1, b2⟩ := argBest_gt (fun i => ns.getD i 0) (ns.length - 1)
    refine ⟨.int _, H, I.kept (t' := tk) (fun b o e => k b o (fun z => ?_) (Heap.get?_push_of_some _ e)), ⟨t, rfl⟩, q _ (getD_in (by omega)) fun y hy => ?_⟩
    · rw [List.mem_singleton.mp z] at e
      exact absurd (Heap.lt_size e) (Nat.lt_irrefl _)
    · obtain ⟨j, hj, ej⟩ := in_getD hy
      rw [← ej]
      exact b2 j (by omega)
theorem cr_minU (hc : X.calm = true) : CallR X (.builtin "min") (rMinU X.K) := by
  intro pins s σ H vs us Q I r ⟨a, ns, e, hs, hne, q⟩
  subst e
  obtain ⟨its, rv, p, _⟩ := I.tuple hs
  rw [Vals.ref1 r]
  have hi := intsAre_of rv
  have hl : its.length = ns.length := by rw [← rv.length, List.length_map]
  have tup : s.heap.IsTuple a its.toArray := p
  have al : a < s.heap.objs.size := p.lt
  refine call_min_walk (wpAny_pyIter_tuple tup ?_)
  refine ⟨s.heap.objs.size, [s.heap.objs.size, a], [s.heap.objs.size], its.toArray.size, _, _, fun i j => decide (ns.getD i 0 < ns.getD j 0), rfl,
    Walks.tuple (A := X.A.in1) (I.ok.hd hc) _ a (Nat.ne_of_lt al) its.toArray, ⟨⟨_, Heap.get?_push_size _ rfl, rfl, rfl⟩, tup.push _⟩, fun b hb => ?_, by simp; omega, CmpOf.ints_lt (fun i => ns.getD i 0) (fun i v h => int_of hi i v h), fun v h' tk hv k => ?_⟩
  · show b < (s.heap.push _).objs.size
    rw [size_push']
    rcases List.mem_cons.mp hb with z | z
    · rw [z]
      exact Nat.lt_succ_self _
    · rw [List.mem_singleton.mp z]
      exact Nat.lt_succ_of_lt al
  · obtain ⟨t, rfl⟩ := int_of hi _ _ hv
    have sz : its.toArray.size = ns.length := by simp; omega
    rw [sz]
    obtain ⟨b1, b2⟩ := argBest_lt (fun i => ns.getD i 0) (ns.length - 1)
    refine ⟨.int _, H, I.kept (t' := tk) (fun b o e => k b o (fun z => ?_) (Heap.get?_push_of_some _ e)), ⟨t, rfl⟩, q _ (getD_in (by omega)) fun y hy => ?_⟩
    · rw [List.mem_singleton.mp z] at e
      exact absurd (Heap.lt_size e) (Nat.lt_irrefl _)
    · obtain ⟨j, hj, ej⟩ := in_getD hy
      rw [← ej]
      exact b2 j (by omega)
/-! ### max(i, j, k) -/
theorem max3_args (a b c : Value) : argsOk "max" ⟨[a, b, c], []⟩ := by unfold argsOk; kernel_rfl
theorem call_max3 (hc : X.calm = true) : CallR X (.builtin "max") (fun xs H Q => ∃ i j k, xs = [.int i, .int j, .int k] ∧ Q (.int (max (max i j) k)) H) := by
  intro pins s σ H xs us Q I r ⟨i, j, k, e, q⟩
  subst e
  cases r with
  | cons r1 r =>
    cases r with
    | cons r2 r =>
      cases r with
      | cons r3 r =>
        cases r
        obtain ⟨t1, rfl⟩ := r1
        obtain ⟨t2, rfl⟩ := r2
        obtain ⟨t3, rfl⟩ := r3
        have nm : (toString "max" ++ toString ".loop" : String) = "max.loop" := by decide
        refine call_function_tree PySem.F.kind_max PySem.F.plain_max PySem.F.entry_max (max3_args _ _ _) ?_
        show wpAny _ X.A.in1 (Builtin.Builtins.bindParams "max" ["key", "default"] 0 ⟨[], []⟩ >>= _) _ _ s
        refine wpAny_bind (wpAny_of_eq (show Builtin.Builtins.bindParams "max" ["key", "default"] 0 ⟨[], []⟩ = pure [none, none] from rfl) ?_)
        show wpAny _ X.A.in1 (newTuple [.int i t1, .int j t2, .int k t3] >>= _) _ _ s
        refine wpAny_bind (wpAny_newObj_type ?_)
        have hi : IntsAre [.int i t1, .int j t2, .int k t3] [i, j, k] := .cons _ _ (.cons _ _ (.cons _ _ .nil))
        have tup : (s.heap.push { cls := .type "tuple", data := .seq #[.int i t1, .int j t2, .int k t3] }).IsTuple s.heap.objs.size ([.int i t1, .int j t2, .int k t3] : List Value).toArray := ⟨_, Heap.get?_push_size _ rfl, rfl, 0, rfl⟩
        have z1 : (s.heap.push { cls := .type "tuple", data := .seq #[.int i t1, .int j t2, .int k t3] }).objs.size = s.heap.objs.size + 1 := Heap.size_push ..
        refine wpAny_bind (wpAny_pyIter_tuple tup ?_)
        refine wpAny_bind (wpAny_newObj_type ?_)
        rw [nm]
        have z2 : ((s.heap.push { cls := .type "tuple", data := .seq #[.int i t1, .int j t2, .int k t3] }).push { cls := .type "tuple_iterator", data := .fields #[.ref s.heap.objs.size, .int 0 0] }).objs.size = s.heap.objs.size + 2 := by rw [Heap.size_push, z1]
        have al : s.heap.objs.size ≠ (s.heap.push { cls := .type "tuple", data := .seq #[.int i t1, .int j t2, .int k t3] }).objs.size := by rw [z1]; exact Nat.ne_of_lt (Nat.lt_succ_self _)
        refine wpAny_pure ⟨plainId_quiet PySem.F.plain_max_loop _, codeAny_max_loop_first (Walks.tuple (A := X.A.in1) (I.ok.hd hc) _ s.heap.objs.size al ([.int i t1, .int j t2, .int k t3] : List Value).toArray) (fun a b => decide ([i, j, k].getD a 0 > [i, j, k].getD b 0)) (CmpOf.ints_gt (fun a => [i, j, k].getD a 0) (fun a v h => int_of hi a v h)) _ ?_ (by simp) ⟨⟨_, Heap.get?_push_of_some _ (Heap.get?_push_size _ rfl), rfl, rfl⟩, (tup.push _).push _⟩ (Heap.get?_push_size _ rfl) fun v h' tk hv kp => ?_⟩
        · rw [z1, z2]
          simp only [List.mem_cons, List.not_mem_nil, or_false, not_or]
          exact ⟨Nat.ne_of_gt (Nat.lt_succ_self _), Nat.ne_of_gt (Nat.lt_succ_of_lt (Nat.lt_succ_self _))⟩
        · obtain ⟨t, rfl⟩ := int_of hi _ _ hv
          have keep : ∀ b o, s.heap.get? b = some o → h'.get? b = some o := fun b o e => by
            have lt := Heap.lt_size e
            refine kp b o (fun z => ?_) ?_ (Heap.get?_push_of_some _ (Heap.get?_push_of_some _ (Heap.get?_push_of_some _ e)))
            · rw [List.mem_singleton.mp z, z1] at lt
              exact absurd lt (Nat.not_lt.mpr (Nat.le_succ _))
            · rw [z2]
              exact Nat.ne_of_lt (Nat.lt_succ_of_lt (Nat.lt_succ_of_lt lt))
          refine ⟨.int _, H, I.kept (t' := tk) keep, ⟨t, rfl⟩, ?_⟩
          have e : [i, j, k].getD (argBest (fun a b => decide ([i, j, k].getD a 0 > [i, j, k].getD b 0)) (([.int i t1, .int j t2, .int k t3] : List Value).toArray.size - 1)) 0 = max (max i j) k := by
            obtain ⟨b1, b2⟩ := argBest_gt (fun a => [i, j, k].getD a 0) 2
            have h0 : i ≤ _ := b2 0 (by omega)
            have h1 : j ≤ _ := b2 1 (by omega)
            have h2 : k ≤ _ := b2 2 (by omega)
            have hm : [i, j, k].getD (argBest (fun a b => decide ([i, j, k].getD a 0 > [i, j, k].getD b 0)) 2) 0 ∈ [i, j, k] := getD_in (by show _ < 3; omega)
            show [i, j, k].getD (argBest (fun a b => decide ([i, j, k].getD a 0 > [i, j, k].getD b 0)) 2) 0 = max (max i j) k
            simp only [List.mem_cons, List.not_mem_nil, or_false] at hm
            omega
          rw [e]
          exact q
/-! ### min(xs, default=None) -/
def rMinD (K : PySem.W.Frag) : List V → List V → Hp → VK → Prop := fun vs zs H Q => ∃ (a : Addr) (xs : List V) (bt : Nat → Nat → Bool), vs = [V.ref a] ∧ zs = [V.non] ∧ SqL K H a xs ∧
  (∀ a b c, bt a b = true → bt b c = true → bt a c = true) ∧ (∀ a, bt a a = false) ∧
  (∀ (i j : Nat) x y, xs[i]? = some x → xs[j]? = some y → ∃ d e, Dp K H x d ∧ Dp K H y e ∧ PySem.W.alike d e = true ∧ d ≠ .none ∧ d.depth ≤ 32 ∧ bt i j = PySem.W.dataLt d e) ∧
  (xs = [] → Q .non H) ∧ ∀ (k : Nat) x, xs[k]? = some x → (∀ m, m < xs.length → bt m k = false) → Q x H
theorem cr_minD (hc : X.calm = true) (hu : X.A.units + 64 < cLine) : CallRK X (.builtin "min") [Str.ofString "default"] (rMinD X.K) := by
  intro pins s σ H vs zs us ws Q I r rz ⟨a, xs, bt, e1, e2, hs, tr, ir, cmp, q0, q1⟩
  subst e1; subst e2
  obtain rfl := Vals.ref1 r
  obtain ⟨w1, rfl, e1⟩ := vals1 rz
  obtain rfl : w1 = Value.none := e1
  obtain ⟨its, rv, hl, hz⟩ := I.list hs
  have hlen := rv.length
  refine minD_call (bt := bt) (I.ok.hd hc) hl.isList tr ir ?_ ?_ ?_
  · intro i j u v z Q' E' kp hi hj hq
    have hix : i < xs.length := by
      have := (List.getElem?_eq_some_iff.mp hi).1
      omega
    have hjx : j < xs.length := by
      have := (List.getElem?_eq_some_iff.mp hj).1
      omega
    have gx : xs[i]? = some xs[i] := List.getElem?_eq_getElem hix
    have gy : xs[j]? = some xs[j] := List.getElem?_eq_getElem hjx
    obtain ⟨u', hu', ru⟩ := rv.get gx
    obtain ⟨v', hv', rv'⟩ := rv.get gy
    rw [hi] at hu'
    rw [hj] at hv'
    obtain rfl := Option.some.inj hu'
    obtain rfl := Option.some.inj hv'
    obtain ⟨d, e, hd, he, al, nn, dp, eq⟩ := cmp i j _ _ gx gy
    obtain ⟨as, c1⟩ := Dp.reads I d _ u hd ru
    obtain ⟨bs, c2⟩ := Dp.reads I e _ v he rv'
    have c1' : Reads z.heap u d as := PyProof.Rows.Reads.keeps kp c1
    have c2' : Reads z.heap v e bs := PyProof.Rows.Reads.keeps kp c2
    rw [eq] at hq
    have hui : X.A.in1.units = X.A.units + 1 := rfl
    exact PySem.W.rcLt_alike d e X.A.in1 z u v as bs c1' c2' al nn (by rw [hui]; omega) X.prog X.w E' Q' hq
  · intro h0 h' tk kp
    have : xs = [] := by
      rw [h0] at hlen
      exact List.length_eq_zero_iff.mp hlen
    exact ⟨.non, H, I.kept (t' := tk) kp, rfl, q0 this⟩
  · intro k v h' tk hv best kp
    have hk : k < xs.length := by
      have := (List.getElem?_eq_some_iff.mp hv).1
      omega
    have gx : xs[k]? = some xs[k] := List.getElem?_eq_getElem hk
    obtain ⟨v', hv', rv'⟩ := rv.get gx
    rw [hv] at hv'
    obtain rfl := Option.some.inj hv'
    exact ⟨xs[k], H, I.kept (t' := tk) kp, rv', q1 k _ gx fun m hm => best m (by omega)⟩
end
end QX
set_option Elab.async false
set_option linter.all false
set_option maxRecDepth 100000
set_option maxHeartbeats 4000000
/-! The walk, 0: the text by places, what the top leaves, a def by its name. -/
namespace QW
open PySem PySem.Spec PyProof.Rows L2 QX QF
def top (i : Nat) : Stmt := PySem.Challenge.pw_quarterfold_k54_whole_nearest_on_great_f.main.body.getD i (.Pass ⟨0, 0, 0, 0⟩)
/-- a def of the module by its name -/
structure Df (K : PySem.W.Frag) (mg : Str → Option Value) (x : Str) (st : Stmt) (ps : List Str) : Prop where
  ex : ∃ (f : Addr) (fd : FuncData), L2.Fun K x x st f fd ∧ mg x = some (.ref f) ∧ Binds K fd ps []
/-- a method -/
structure Mf (K : PySem.W.Frag) (C : Addr) (m qual : Str) (st : Stmt) (ps : List Str) : Prop where
  ex : ∃ (f : Addr) (fd : FuncData), L2.Fun K m qual st f fd ∧ Meth K C m f ∧ Binds K fd ps []
/-- an __init__ -/
structure If (K : PySem.W.Frag) (mg : Str → Option Value) (x : Str) (C : Addr) (qual : Str) (st : Stmt) (ps : List Str) : Prop where
  ex : ∃ (f : Addr) (fd : FuncData), L2.Fun K "__init__" qual st f fd ∧ Mk K C f ∧ mg x = some (.ref C) ∧ Binds K fd ps []
/-- a def that keeps its promise sp by k calls, one in another -/
structure Cal (P : Program) (w : World) (K : PySem.W.Frag) (mg : Str → Option Value) (base : Heap) (k : Nat) (x : Str) (sp : Sp) : Prop where
  ex : ∃ (f : Addr) (fd : FuncData) (ps : List Str), FnOk P w K mg base L2.CX0 k f fd ps sp ∧ mg x = some (.ref f) ∧ PySem.W.keepIn K (.ref f) = true ∧ Binds K fd ps []
structure Met (P : Program) (w : World) (K : PySem.W.Frag) (mg : Str → Option Value) (base : Heap) (k : Nat) (C : Addr) (m : Str) (sp : Sp) : Prop where
  ex : ∃ (f : Addr) (fd : FuncData) (ps : List Str), Cls K C ∧ Meth K C m f ∧ FnOk P w K mg base L2.CX0 k f fd ps sp ∧ Binds K fd ps []
structure Mak (P : Program) (w : World) (K : PySem.W.Frag) (mg : Str → Option Value) (base : Heap) (k : Nat) (x : Str) (C : Addr) (sp : Sp) : Prop where
  ex : ∃ (f : Addr) (fd : FuncData) (ps : List Str), Mk K C f ∧ FnOk P w K mg base L2.CX0 k f fd ps sp ∧ mg x = some (.ref C) ∧ Binds K fd ps []
section
variable {P : Program} {w : World} {K : PySem.W.Frag} {mg : Str → Option Value} {base : Heap}
theorem Df.cal {x : Str} {st : Stmt} {N ps : List Str} {k : Nat} {sp : Sp} (D : Df K mg x st ps) (S : FnScope N ps (defScope st)) (len : ∀ vs H Q E, sp vs H Q E → vs.length = ps.length)
    (body : ∀ (f : Addr) (cdv : Value) (A : Around) (outer : List Env) (s : Shared) (H : Hp) (vs : List V) (Q : VK) (E : XK), Room k (A.deeper (envOfC x (defScope st) s.heap.objs.size f cdv)) → sp vs H Q E →
      ∃ t, PSs (cxOf L2.CX0 P w K mg base N x (defScope st) f cdv A outer s H E).nox (defBody st) t ∧ t { nx := fun _ H' => Q .non H', rt := Q } (start N vs) H) : Cal P w K mg base (k + 1) x sp := by
  obtain ⟨f, fd, F, hm, b⟩ := D.ex
  exact ⟨f, fd, ps, F.ok S len (body f), hm, F.kp, b⟩
theorem Mf.met {C : Addr} {m qual : Str} {st : Stmt} {N ps : List Str} {k : Nat} {sp : Sp} (c : Cls K C) (D : Mf K C m qual st ps) (S : FnScope N ps (defScope st)) (len : ∀ vs H Q E, sp vs H Q E → vs.length = ps.length)
    (body : ∀ (f : Addr) (cdv : Value) (A : Around) (outer : List Env) (s : Shared) (H : Hp) (vs : List V) (Q : VK) (E : XK), Room k (A.deeper (envOfC qual (defScope st) s.heap.objs.size f cdv)) → sp vs H Q E →
      ∃ t, PSs (cxOf L2.CX0 P w K mg base N qual (defScope st) f cdv A outer s H E).nox (defBody st) t ∧ t { nx := fun _ H' => Q .non H', rt := Q } (start N vs) H) : Met P w K mg base (k + 1) C m sp := by
  obtain ⟨f, fd, F, hm, b⟩ := D.ex
  exact ⟨f, fd, ps, c, hm, F.ok S len (body f), b⟩
theorem If.mak {x : Str} {C : Addr} {qual : Str} {st : Stmt} {N ps : List Str} {k : Nat} {sp : Sp} (D : If K mg x C qual st ps) (S : FnScope N ps (defScope st)) (len : ∀ vs H Q E, sp vs H Q E → vs.length = ps.length)
    (body : ∀ (f : Addr) (cdv : Value) (A : Around) (outer : List Env) (s : Shared) (H : Hp) (vs : List V) (Q : VK) (E : XK), Room k (A.deeper (envOfC qual (defScope st) s.heap.objs.size f cdv)) → sp vs H Q E →
      ∃ t, PSs (cxOf L2.CX0 P w K mg base N qual (defScope st) f cdv A outer s H E).nox (defBody st) t ∧ t { nx := fun _ H' => Q .non H', rt := Q } (start N vs) H) : Mak P w K mg base (k + 1) x C sp := by
  obtain ⟨f, fd, F, M, hm, b⟩ := D.ex
  exact ⟨f, fd, ps, M, F.ok S len (body f), hm, b⟩
end
section
variable {X : Cx} {k j : Nat} {C : Addr} {x m : Str} {sp : Sp} {p pos apos : Pos} {e o : Expr} {es : List Expr} {ta : TE} {t : TA}
theorem pe_c (c : Cal X.prog X.w X.K X.mg X.base k x sp) (hr : Room j X.A) (hk : k ≤ j) (hg : Gl X x) (ha : PA X (e :: es) t)
    (hdb : (x == ("__debug__" : Str)) = false := by decide) (he : starEach (e :: es) X.env = (false, eval e X.env) :: starEach es X.env := by rfl) (hpl : (backTo pos (starEach es X.env)).any (·.1) = false := by rfl) :
    PE X (.Call (.Name x p) (e :: es) [] pos) (tCall sp [] L2.E0 t) := by
  obtain ⟨f, fd, ps, F, hm, kp, b⟩ := c.ex
  exact pe_call F (hr.mono hk) hg hm kp b .nil L2.pass0 ha hdb he hpl
theorem pe_mk0 (c : Mak X.prog X.w X.K X.mg X.base k x C sp) (hr : Room j X.A) (hk : k + 1 ≤ j) (hg : Gl X x) (hdb : (x == ("__debug__" : Str)) = false := by decide) :
    PE X (.Call (.Name x p) [] [] pos) (tMake C sp [] L2.E0 tNil) := by
  obtain ⟨f, fd, ps, M, F, hm, b⟩ := c.ex
  exact pe_make0 M F (hr.mono hk) hg hm b .nil L2.pass0 hdb
theorem pe_mt {pl : Sem Bool} (c : Met X.prog X.w X.K X.mg X.base k C m sp) (hr : Room j X.A) (hk : k ≤ j) (he : PE X o ta) (ha : PA X (e :: es) t)
    (hst : starEach (e :: es) X.env = (false, eval e X.env) :: starEach es X.env := by rfl) (hpl : (backTo pos (starEach es X.env)).any (·.1) = false := by rfl)
    (ht : eval (.Call (.Attribute o m apos) (e :: es) [] pos) X.env = (do
      let ov ← eval o X.env
      standAt apos.atName
      let (f, first) ← holding [ov] (getMethod ov m pl)
      callWith pos f first (backTo pos (starEach (e :: es) X.env)) (backToKw pos (keywordEach [] X.env))) := by rfl) :
    PE X (.Call (.Attribute o m apos) (e :: es) [] pos) (tMeth C m sp [] L2.E0 ta t) := by
  obtain ⟨f, fd, ps, hc, hm, F, b⟩ := c.ex
  exact pe_meth (pl := pl) he hc hm F (hr.mono hk) b .nil L2.pass0 ha hst hpl ht
/-- a constant of the module -/
theorem pe_gl {v : V} (hg : Gl X x) (h : ∃ u, X.mg x = some u ∧ RelV v u) (hd : (x == ("__debug__" : Str)) = false := by decide) : PE X (.Name x pos) (tC v) := by
  obtain ⟨u, e, r⟩ := h
  exact pe_glob hg e r hd
theorem hu65 {A : Around} (hr : Room j A) : A.units + 65 < cLine := by have := hr.un; omega
end
/-- what the top leaves -/
structure Txt (K : PySem.W.Frag) (mg : Str → Option Value) (C : Addr) : Prop where
  b_isinstance : mg "isinstance" = none
  b_int : mg "int" = none
  b_bool : mg "bool" = none
  b_str : mg "str" = none
  b_tuple : mg "tuple" = none
  b_list : mg "list" = none
  b_len : mg "len" = none
  b_all : mg "all" = none
  b_any : mg "any" = none
  b_max : mg "max" = none
  b_min : mg "min" = none
  b_sum : mg "sum" = none
  b_sorted : mg "sorted" = none
  b_set : mg "set" = none
  b_enumerate : mg "enumerate" = none
  b_range : mg "range" = none
  b_abs : mg "abs" = none
  gMS : ∃ u, mg "MOST_SIZE" = some u ∧ RelV (.int 12) u
  gFG : ∃ u, mg "FIGURES" = some u ∧ RelV (.str "0123") u
  gML : ∃ u, mg "MOST_LEAVES" = some u ∧ RelV (.int 2000) u
  cl : Cls K C
  nR : NoAttr K C "rows"
  nN : NoAttr K C "numbers"
  d_Rows : If K mg "Rows" C "Rows.__init__" (inClass (top 19) 0) ["self"]
  d_number : Mf K C "number" "Rows.number" (inClass (top 19) 1) ["self", "quarters"]
  d_quarters : Mf K C "quarters" "Rows.quarters" (inClass (top 19) 2) ["self", "number"]
  d_take : Mf K C "take" "Rows.take" (inClass (top 19) 3) ["self", "telling"]
  d_order : Mf K C "order" "Rows.order" (inClass (top 19) 4) ["self", "number", "found"]
  d_shape : Mf K C "shape" "Rows.shape" (inClass (top 19) 5) ["self", "n", "top"]
  d_is_whole : Df K mg "is_whole" (top 10) ["thing"]
  d_is_size : Df K mg "is_size" (top 11) ["thing"]
  d_is_address : Df K mg "is_address" (top 12) ["n", "thing"]
  d_is_cell : Df K mg "is_cell" (top 13) ["n", "row", "column"]
  d_want_size : Df K mg "want_size" (top 14) ["n"]
  d_want_address : Df K mg "want_address" (top 15) ["n", "address"]
  d_want_cell : Df K mg "want_cell" (top 16) ["n", "row", "column"]
  d_box_of : Df K mg "box_of" (top 17) ["n", "address"]
  d_one_of : Df K mg "one_of" (top 20) ["telling"]
  d_is_number : Df K mg "is_number" (top 22) ["thing", "most"]
  d_is_row : Df K mg "is_row" (top 23) ["thing", "place"]
  d_depths_of : Df K mg "depths_of" (top 24) ["rows"]
  d_is_telling : Df K mg "is_telling" (top 25) ["thing"]
  d_is_shape : Df K mg "is_shape" (top 26) ["thing"]
  d_want_shape : Df K mg "want_shape" (top 27) ["thing"]
  d_many_in : Df K mg "many_in" (top 30) ["shape"]
  d_want_coarse : Df K mg "want_coarse" (top 31) ["shape"]
  d_leaves_of : Df K mg "leaves_of" (top 32) ["shape"]
  d_beyond : Df K mg "beyond" (top 34) ["number", "first", "size"]
  d_rank : Df K mg "rank" (top 35) ["box", "row", "column"]
  d_ranks : Df K mg "ranks" (top 36) ["shape", "row", "column"]
  d_first_rank : Df K mg "first_rank" (top 37) ["told", "wanted"]
  d_nearest : Df K mg "nearest" (top 38) ["shape", "row", "column"]
  d_L_pot : Df K mg "_law_pot" (top 40) ["_law_script", "_law_k"]
  d_L_digit : Df K mg "_law_digit" (top 41) ["_law_pot_here", "_law_many"]
  d_L_box : Df K mg "_law_box" (top 43) ["_law_pot_here", "_law_n", "_law_most"]
  d_L_boxes : Df K mg "_law_boxes" (top 44) ["_law_pot_here", "_law_n"]
  d_L_meets : Df K mg "_law_meets" (top 45) ["_law_box_here", "_law_row", "_law_column", "_law_side"]
  d_L_has : Df K mg "_law_has" (top 46) ["_law_box_here", "_law_row", "_law_column", "_law_side"]
  d_L_number : Df K mg "_law_number" (top 47) ["_law_rows", "_law_boxes_here", "_law_row", "_law_column", "_law_side"]
  d_L_shape : Df K mg "_law_shape" (top 48) ["_law_n", "_law_boxes_here"]
  d_L_leaf : Df K mg "_law_leaf" (top 49) ["_law_told", "_law_row", "_law_column"]
  d_L_square : Df K mg "_law_square" (top 50) ["_law_n", "_law_address"]
  d_L_near_box : Df K mg "_law_near_box" (top 51) ["_law_pot_here", "_law_boxes_here", "_law_n"]
  d_L_common : Df K mg "_law_common" (top 52) ["_law_box_here", "_law_other"]
  d_L_ahead : Df K mg "_law_ahead" (top 53) ["_law_row", "_law_column", "_law_far", "_law_place"]
  d_L_share : Df K mg "_law_share" (top 54) ["_law_ahead_here", "_law_box_here"]
  d_L_right : Df K mg "_law_right" (top 55) ["_law_told", "_law_row", "_law_column", "_law_some"]
  d_law : Df K mg "law" (top 56) ["_law_script"]
/-! ### answers -/
theorem bl_t {p : Prop} [Decidable p] {Q : VK} {H : Hp} (h : p) (q : Q (.bl true) H) : Q (.bl (decide p)) H := by
  rw [decide_eq_true h]
  exact q
theorem bl_f {p : Prop} [Decidable p] {Q : VK} {H : Hp} (h : ¬ p) (q : Q (.bl false) H) : Q (.bl (decide p)) H := by
  rw [decide_eq_false h]
  exact q
/-! ### max, min, abs of whole numbers -/
theorem max2_eq (i j : Int) : (if j > i then j else i) = max i j := by
  split <;> omega
theorem min2_eq (i j : Int) : (if j < i then j else i) = min i j := by
  split <;> omega
theorem abs_eq (i : Int) : (if i < 0 then -i else i) = absI i := by
  unfold absI
  split <;> omega
theorem call_mx2 {X : Cx} (hc : X.calm = true) : CallR X (.builtin "max") (fun xs H Q => ∃ i j, xs = [.int i, .int j] ∧ Q (.int (max i j)) H) := by
  intro pins s σ H xs us Q I r ⟨i, j, e, q⟩
  exact call_max2 hc pins s σ H xs us Q I r ⟨i, j, e, by rw [max2_eq]; exact q⟩
theorem call_mn2 {X : Cx} (hc : X.calm = true) : CallR X (.builtin "min") (fun xs H Q => ∃ i j, xs = [.int i, .int j] ∧ Q (.int (min i j)) H) := by
  intro pins s σ H xs us Q I r ⟨i, j, e, q⟩
  exact call_min2 hc pins s σ H xs us Q I r ⟨i, j, e, by rw [min2_eq]; exact q⟩
theorem call_ab {X : Cx} : CallR X (.builtin "abs") (fun xs H Q => ∃ i, xs = [.int i] ∧ Q (.int (absI i)) H) := by
  intro pins s σ H xs us Q I r ⟨i, e, q⟩
  exact call_abs pins s σ H xs us Q I r ⟨i, e, by rw [abs_eq]; exact q⟩
theorem eqi {a b : Int} (h : decide (V.int a = V.int b) = true) : a = b := by simpa using h
theorem nei {a b : Int} (h : ¬ decide (V.int a = V.int b) = true) : a ≠ b := by simpa using h
/-! ### heaps -/
theorem same_new {H : Hp} {p : Addr} (h : H p = none) (o : HO) : Same H (upd H p o) := fun b u q => by
  rw [upd_ne (ne_of_none q h)]
  exact q
theorem same_then {H H1 : Hp} {p : Addr} (s : Same H H1) (h : H1 p = none) (o : HO) : Same H (upd H1 p o) := s.trans (same_new h o)
/-- an object that H does not know changes -/
theorem same_mut {H H1 : Hp} {p : Addr} (s : Same H H1) (h : H p = none) (o : HO) : Same H (upd H1 p o) := fun b u q => by
  rw [upd_ne (ne_of_none q h)]
  exact s b u q
/-- a row -/
def rowV (q : Qd) : List V := [.int q.a, .int q.b, .int q.c, .int q.d]
/-- the rows R stand at the addresses bs -/
def RowsAt (H : Hp) : List Addr → List Qd → Prop
  | [], [] => True
  | b :: bs, q :: R => H b = some (.tup (rowV q)) ∧ RowsAt H bs R
  | _, _ => False
theorem RowsAt.same {H H' : Hp} (s : Same H H') : ∀ {bs : List Addr} {R : List Qd}, RowsAt H bs R → RowsAt H' bs R
  | [], [], _ => trivial
  | _ :: _, _ :: _, ⟨h1, h2⟩ => ⟨s _ _ h1, RowsAt.same s h2⟩
  | [], _ :: _, h => h.elim
  | _ :: _, [], h => h.elim
theorem RowsAt.len {H : Hp} : ∀ {bs : List Addr} {R : List Qd}, RowsAt H bs R → bs.length = R.length
  | [], [], _ => rfl
  | _ :: _, _ :: _, ⟨_, h2⟩ => by simp [RowsAt.len h2]
  | [], _ :: _, h => h.elim
  | _ :: _, [], h => h.elim
theorem RowsAt.get {H : Hp} : ∀ {bs : List Addr} {R : List Qd} {i : Nat} {q : Qd}, RowsAt H bs R → R[i]? = some q → ∃ b, bs[i]? = some b ∧ H b = some (.tup (rowV q))
  | [], [], _, _, _, h => by simp at h
  | b :: _, _ :: _, 0, _, ⟨h1, _⟩, h => by
    simp at h
    subst h
    exact ⟨b, rfl, h1⟩
  | _ :: _, _ :: _, i + 1, _, ⟨_, h2⟩, h => by
    obtain ⟨b, e, k⟩ := RowsAt.get (i := i) h2 (by simpa using h)
    exact ⟨b, by simpa using e, k⟩
  | [], _ :: _, _, _, h, _ => h.elim
  | _ :: _, [], _, _, h, _ => h.elim
theorem RowsAt.at {H : Hp} : ∀ {bs : List Addr} {R : List Qd} {i : Nat} {b : Addr}, RowsAt H bs R → bs[i]? = some b → ∃ q, R[i]? = some q ∧ H b = some (.tup (rowV q))
  | [], [], _, _, _, h => by simp at h
  | _ :: _, q :: _, 0, _, ⟨h1, _⟩, h => by
    simp at h
    subst h
    exact ⟨q, rfl, h1⟩
  | _ :: _, _ :: _, i + 1, _, ⟨_, h2⟩, h => by
    obtain ⟨q, e, k⟩ := RowsAt.at (i := i) h2 (by simpa using h)
    exact ⟨q, by simpa using e, k⟩
  | [], _ :: _, _, _, h, _ => h.elim
  | _ :: _, [], _, _, h, _ => h.elim
theorem RowsAt.snoc {H : Hp} : ∀ {bs : List Addr} {R : List Qd} {b : Addr} {q : Qd}, RowsAt H bs R → H b = some (.tup (rowV q)) → RowsAt H (bs ++ [b]) (R ++ [q])
  | [], [], _, _, _, h => ⟨h, trivial⟩
  | _ :: _, _ :: _, _, _, ⟨h1, h2⟩, h => ⟨h1, RowsAt.snoc h2 h⟩
  | [], _ :: _, _, _, h, _ => h.elim
  | _ :: _, [], _, _, h, _ => h.elim
/-- a telling -/
def TellAt (H : Hp) (a : Addr) (n top : Nat) (R : List Qd) : Prop := ∃ ra bs, H a = some (.tup [.int n, .int top, .ref ra]) ∧ H ra = some (.tup (bs.map V.ref)) ∧ RowsAt H bs R
theorem TellAt.same {H H' : Hp} (s : Same H H') {a : Addr} {n top : Nat} {R : List Qd} (h : TellAt H a n top R) : TellAt H' a n top R := by
  obtain ⟨ra, bs, h1, h2, h3⟩ := h
  exact ⟨ra, bs, s _ _ h1, s _ _ h2, h3.same s⟩
theorem sz_le {n : Nat} (h : n ≤ 100000) : n ≤ sizeLine := Nat.le_trans h (by decide)
theorem sz_lt {n : Nat} (h : n < 100000) : n < sizeLine := Nat.lt_of_lt_of_le h (by decide)
/-- whole numbers in a list -/
def natsV (l : List Nat) : List V := l.map fun n => .int (n : Nat)
/-- a text of figures -/
def strOf (ad : List Nat) : Str := ⟨ad.toArray⟩
end QW
set_option Elab.async false
set_option linter.all false
set_option maxRecDepth 100000
set_option maxHeartbeats 4000000
/-! The walk, 1: floors. -/
namespace QW
open PySem PySem.Spec PyProof.Rows L2 QX QF
section
variable {P : Program} {w : World} {K : PySem.W.Frag} {mg : Str → Option Value} {base : Heap} {C : Addr}
def spWhole : Sp := fun vs H Q _ => ∃ i : Int, vs = [.int i] ∧ Q (.bl true) H
/-! is_whole: slots 0 thing -/
abbrev s_is_whole : Stmt := top 10
theorem sc_is_whole : FnScope ["thing"] ["thing"] (defScope s_is_whole) := ⟨rfl, rfl, rfl, by decide +kernel, rfl, by decide +kernel, by decide +kernel⟩
theorem c_is_whole (T : Txt K mg C) : Cal P w K mg base 1 "is_whole" spWhole := by
  refine T.d_is_whole.cal sc_is_whole (fun vs H Q E h => ?_) (fun f cdv A outer s H vs Q E hr h => ?_)
  · obtain ⟨i, rfl, _⟩ := h
    rfl
  obtain ⟨i, rfl, q⟩ := h
  refine ⟨_, (pss_one (ps_ret (pe_and (pe_callB call_isi (by rfl) T.b_isinstance (by decide +kernel) (pa_cons (pv 0) (pa_cons (pe_bltn (v := .ty "int") (by rfl) T.b_int (by decide +kernel) rfl) pa_nil))) (pe_one (pe_not (pe_callB call_isi (by rfl) T.b_isinstance (by decide +kernel) (pa_cons (pv 0) (pa_cons (pe_bltn (v := .ty "bool") (by rfl) T.b_bool (by decide +kernel) rfl) pa_nil)))))))), ?_⟩
  refine ⟨_, rfl, _, _, _, _, true, rfl, .ty _, .base (.int _), kit_ty (by decide +kernel), true, rfl, iteT ?_⟩
  exact ⟨_, rfl, _, _, _, _, false, rfl, .ty _, .base (.int _), kit_ty (by decide +kernel), false, rfl, q⟩
def spSize : Sp := fun vs H Q _ => ∃ n : Int, vs = [.int n] ∧ 0 ≤ n ∧ n ≤ 12 ∧ Q (.bl true) H
/-! is_size: slots 0 thing -/
abbrev s_is_size : Stmt := top 11
theorem sc_is_size : FnScope ["thing"] ["thing"] (defScope s_is_size) := ⟨rfl, rfl, rfl, by decide +kernel, rfl, by decide +kernel, by decide +kernel⟩
theorem c_is_size (T : Txt K mg C) : Cal P w K mg base 2 "is_size" spSize := by
  have G_is_whole := c_is_whole (P := P) (w := w) (base := base) T
  refine T.d_is_size.cal sc_is_size (fun vs H Q E h => ?_) (fun f cdv A outer s H vs Q E hr h => ?_)
  · obtain ⟨i, rfl, _⟩ := h
    rfl
  obtain ⟨n, rfl, h0, h1, q⟩ := h
  refine ⟨_, (pss_one (ps_ret (pe_and (pe_c G_is_whole hr (by decide) (by rfl) (pa_cons (pv 0) pa_nil)) (pe_one (pe_chain op_le op_le pe_int (pv 0) (pe_gl (by rfl) T.gMS)))))), ?_⟩
  refine ⟨_, rfl, n, rfl, true, rfl, iteT ?_⟩
  refine ⟨_, rfl, _, _, rfl, rfl, _, rfl, ?_⟩
  rw [decide_eq_true h0]
  refine iteT ⟨_, _, rfl, rfl, ?_⟩
  exact bl_t h1 q
def spWantSize : Sp := fun vs H Q _ => ∃ n : Int, vs = [.int n] ∧ 0 ≤ n ∧ n ≤ 12 ∧ Q .non H
/-! want_size: slots 0 n -/
abbrev s_want_size : Stmt := top 14
theorem sc_want_size : FnScope ["n"] ["n"] (defScope s_want_size) := ⟨rfl, rfl, rfl, by decide +kernel, rfl, by decide +kernel, by decide +kernel⟩
theorem c_want_size (T : Txt K mg C) : Cal P w K mg base 3 "want_size" spWantSize := by
  have G_is_size := c_is_size (P := P) (w := w) (base := base) T
  refine T.d_want_size.cal sc_want_size (fun vs H Q E h => ?_) (fun f cdv A outer s H vs Q E hr h => ?_)
  · obtain ⟨i, rfl, _⟩ := h
    rfl
  obtain ⟨n, rfl, h0, h1, q⟩ := h
  refine ⟨_, (pss_one (ps_if (pt_not (pt_val (pe_c G_is_size hr (by decide) (by rfl) (pa_cons (pv 0) pa_nil))))
      (pss_one ps_never)
      pss_nil)), ?_⟩
  refine ⟨_, rfl, n, rfl, h0, h1, true, rfl, ?_⟩
  exact iteF q
def spIsCell : Sp := fun vs H Q _ => ∃ (n : Nat) (r c : Int), vs = [.int n, .int r, .int c] ∧ n ≤ 12 ∧ 0 ≤ r ∧ r < (2 : Int) ^ n ∧ 0 ≤ c ∧ c < (2 : Int) ^ n ∧ Q (.bl true) H
/-! is_cell: slots 0 n, 1 row, 2 column, 3 side -/
abbrev s_is_cell : Stmt := top 13
theorem sc_is_cell : FnScope ["n", "row", "column", "side"] ["n", "row", "column"] (defScope s_is_cell) := ⟨rfl, rfl, rfl, by decide +kernel, rfl, by decide +kernel, by decide +kernel⟩
theorem c_is_cell (T : Txt K mg C) : Cal P w K mg base 2 "is_cell" spIsCell := by
  have G_is_whole := c_is_whole (P := P) (w := w) (base := base) T
  refine T.d_is_cell.cal sc_is_cell (fun vs H Q E h => ?_) (fun f cdv A outer s H vs Q E hr h => ?_)
  · obtain ⟨n, r, c, rfl, _⟩ := h
    rfl
  obtain ⟨n, r, c, rfl, hn, r0, r1, c0, c1, q⟩ := h
  refine ⟨_, (pss_cons (ps_set (i := 3) sc_is_cell.nd rfl (Or.inl rfl) (pe_op op_shl pe_int (pv 0)))
    (pss_one (ps_ret (pe_and (pe_c G_is_whole hr (by decide) (by rfl) (pa_cons (pv 1) pa_nil)) (pe_and (pe_c G_is_whole hr (by decide) (by rfl) (pa_cons (pv 2) pa_nil)) (pe_and (pe_chain op_le op_lt pe_int (pv 1) (pv 3)) (pe_one (pe_chain op_le op_lt pe_int (pv 2) (pv 3))))))))), ?_⟩
  refine ⟨_, rfl, 1, n, rfl, rfl, ⟨by omega, by omega, by decide⟩, ?_⟩
  refine ⟨_, rfl, r, rfl, true, rfl, iteT ?_⟩
  refine ⟨_, rfl, c, rfl, true, rfl, iteT ?_⟩
  refine ⟨_, rfl, _, _, rfl, rfl, _, rfl, ?_⟩
  rw [decide_eq_true r0]
  refine iteT ⟨_, rfl, _, _, rfl, rfl, _, rfl, ?_⟩
  rw [decide_eq_true (show r < 1 * (2 : Int) ^ (n : Int).toNat by rw [Int.one_mul]; exact r1)]
  refine iteT ⟨_, rfl, _, _, rfl, rfl, _, rfl, ?_⟩
  rw [decide_eq_true c0]
  refine iteT ⟨_, rfl, _, _, rfl, rfl, ?_⟩
  exact bl_t (show c < 1 * (2 : Int) ^ (n : Int).toNat by rw [Int.one_mul]; exact c1) q
def spWantCell : Sp := fun vs H Q _ => ∃ (n : Nat) (r c : Int), vs = [.int n, .int r, .int c] ∧ n ≤ 12 ∧ 0 ≤ r ∧ r < (2 : Int) ^ n ∧ 0 ≤ c ∧ c < (2 : Int) ^ n ∧ Q .non H
/-! want_cell: slots 0 n, 1 row, 2 column -/
abbrev s_want_cell : Stmt := top 16
theorem sc_want_cell : FnScope ["n", "row", "column"] ["n", "row", "column"] (defScope s_want_cell) := ⟨rfl, rfl, rfl, by decide +kernel, rfl, by decide +kernel, by decide +kernel⟩
theorem c_want_cell (T : Txt K mg C) : Cal P w K mg base 3 "want_cell" spWantCell := by
  have G_is_cell := c_is_cell (P := P) (w := w) (base := base) T
  refine T.d_want_cell.cal sc_want_cell (fun vs H Q E h => ?_) (fun f cdv A outer s H vs Q E hr h => ?_)
  · obtain ⟨n, r, c, rfl, _⟩ := h
    rfl
  obtain ⟨n, r, c, rfl, hn, r0, r1, c0, c1, q⟩ := h
  refine ⟨_, (pss_one (ps_if (pt_not (pt_val (pe_c G_is_cell hr (by decide) (by rfl) (pa_cons (pv 0) (pa_cons (pv 1) (pa_cons (pv 2) pa_nil))))))
      (pss_one ps_never)
      pss_nil)), ?_⟩
  refine ⟨_, rfl, _, rfl, _, rfl, n, r, c, rfl, hn, r0, r1, c0, c1, true, rfl, ?_⟩
  exact iteF q
/-- figures of quarters -/
def Figs (n : Nat) (ad : List Nat) : Prop := ad.length ≤ n ∧ ∀ x ∈ ad, 48 ≤ x ∧ x < 52
theorem fig_in {x : Nat} (h : 48 ≤ x ∧ x < 52) : decide (x ∈ ("0123" : Str).cps.toList) = true := by
  have : x = 48 ∨ x = 49 ∨ x = 50 ∨ x = 51 := by omega
  rcases this with rfl | rfl | rfl | rfl <;> decide +kernel
def spIsAddress : Sp := fun vs H Q _ => ∃ (n : Nat) (ad : List Nat), vs = [.int n, .str (strOf ad)] ∧ n ≤ 12 ∧ Figs n ad ∧ ∀ H', Same H H' → Q (.bl true) H'
/-! is_address: slots 0 n, 1 thing, 2 figure -/
abbrev s_is_address : Stmt := top 12
theorem sc_is_address : FnScope ["n", "thing", "figure"] ["n", "thing"] (defScope s_is_address) := ⟨rfl, rfl, rfl, by decide +kernel, rfl, by decide +kernel, by decide +kernel⟩
theorem c_is_address (T : Txt K mg C) : Cal P w K mg base 1 "is_address" spIsAddress := by
  refine T.d_is_address.cal sc_is_address (fun vs H Q E h => ?_) (fun f cdv A outer s H vs Q E hr h => ?_)
  · obtain ⟨n, ad, rfl, _⟩ := h
    rfl
  obtain ⟨n, ad, rfl, hn, ⟨hl, hf⟩, q⟩ := h
  refine ⟨_, (pss_one (ps_ret (pe_and (pe_callB call_isi (by rfl) T.b_isinstance (by decide +kernel) (pa_cons (pv 1) (pa_cons (pe_bltn (v := .ty "str") (by rfl) T.b_str (by decide +kernel) rfl) pa_nil))) (pe_and (pe_cmpR op_le (pe_callB call_len_str (by rfl) T.b_len (by decide +kernel) (pa_cons (pv 1) pa_nil)) (pv 0) (nomark _)) (pe_one (pe_callB (cr_all rfl) (by rfl) T.b_all (by decide +kernel) (pa_cons (pe_lc (own := [("figure", 2)]) (g := gName 2) rfl sc_is_address.nd (pi_str (pv 1)) (blkOk_by (N := ["n", "thing", "figure"]) (sc := defScope s_is_address) (by decide +kernel)) (fun _ _ _ _ _ => (pg_name (i := 2) sc_is_address.nd rfl (Or.inl rfl))) (fun _ _ _ _ _ => pts_nil) (fun _ _ _ _ _ => (pe_cmpR op_in_sign (pv 2) (pe_gl (by rfl) T.gFG) rfl))) pa_nil))))))), ?_⟩
  refine ⟨_, rfl, _, _, _, _, true, rfl, .ty _, .base (.str _), kit_ty (by decide +kernel), true, rfl, iteT ?_⟩
  have hlen : (strOf ad).length = ad.length := rfl
  refine ⟨_, rfl, strOf ad, rfl, sz_le (by rw [hlen]; omega), _, rfl, _, _, rfl, rfl, _, rfl, ?_⟩
  rw [decide_eq_true (show ((strOf ad).length : Int) ≤ (n : Int) by rw [hlen]; omega)]
  refine iteT ?_
  refine ⟨_, rfl, strOf ad, rfl, fun D hD => lc_it walk_str (fun i H' => Same H H' ∧ H' D = some (.lst ((List.replicate i true).map V.bl))) ⟨same_new hD _, upd_same⟩ (fun _ _ _ _ => trivial) ?_ ?_⟩
  · rintro i x H1 H2 hi ⟨s1, h1⟩ ⟨rfl, c, hc, rfl⟩
    have hmem : c ∈ ad := by
      have : (strOf ad).cps.toList[i]? = some c := by rw [Array.getElem?_toList]; exact hc
      exact List.mem_of_getElem? this
    refine ⟨rfl, ?_⟩
    refine ⟨_, rfl, c, _, rfl, rfl, _, h1, ?_, ?_⟩
    · rw [List.length_map, List.length_replicate]
      have : i < ad.length := hi
      exact sz_lt (by omega)
    · rw [fig_in (hf c hmem)]
      refine ⟨same_mut s1 hD _, ?_⟩
      rw [upd_same, List.replicate_succ']
      simp
  · rintro H1 ⟨s1, h1⟩
    refine ⟨D, _, rfl, SqL.of h1, ?_⟩
    have e : (List.replicate (strOf ad).cps.size true).any id = true ∨ True := .inr trivial
    have e2 : (List.replicate (strOf ad).cps.size true).all id = true := by simp
    rw [e2]
    exact q _ s1
def spWantAddress : Sp := fun vs H Q _ => ∃ (n : Nat) (ad : List Nat), vs = [.int n, .str (strOf ad)] ∧ n ≤ 12 ∧ Figs n ad ∧ ∀ H', Same H H' → Q .non H'
/-! want_address: slots 0 n, 1 address -/
abbrev s_want_address : Stmt := top 15
theorem sc_want_address : FnScope ["n", "address"] ["n", "address"] (defScope s_want_address) := ⟨rfl, rfl, rfl, by decide +kernel, rfl, by decide +kernel, by decide +kernel⟩
theorem c_want_address (T : Txt K mg C) : Cal P w K mg base 2 "want_address" spWantAddress := by
  have G_is_address := c_is_address (P := P) (w := w) (base := base) T
  refine T.d_want_address.cal sc_want_address (fun vs H Q E h => ?_) (fun f cdv A outer s H vs Q E hr h => ?_)
  · obtain ⟨n, ad, rfl, _⟩ := h
    rfl
  obtain ⟨n, ad, rfl, hn, hf, q⟩ := h
  refine ⟨_, (pss_one (ps_if (pt_not (pt_val (pe_c G_is_address hr (by decide) (by rfl) (pa_cons (pv 0) (pa_cons (pv 1) pa_nil)))))
      (pss_one ps_never)
      pss_nil)), ?_⟩
  refine ⟨_, rfl, _, rfl, n, ad, rfl, hn, hf, fun H1 s1 => ⟨true, rfl, ?_⟩⟩
  exact iteF (q _ s1)
end
end QW
set_option Elab.async false
set_option linter.all false
set_option maxRecDepth 100000
set_option maxHeartbeats 4000000
/-! The walk, 2: box_of, the defs of ranks, rows and counts. -/
namespace QW
open PySem PySem.Spec PyProof.Rows L2 QX QF
section
variable {P : Program} {w : World} {K : PySem.W.Frag} {mg : Str → Option Value} {base : Heap} {C : Addr}
theorem take_snoc {α : Type} {l : List α} {i : Nat} {x : α} (h : l[i]? = some x) : l.take (i + 1) = l.take i ++ [x] := by
  obtain ⟨hi, e⟩ := List.getElem?_eq_some_iff.mp h
  rw [List.take_succ_eq_append_getElem hi, e]
theorem fig_at {x : Nat} (h : 48 ≤ x ∧ x < 52) : ∃ rest, Builtin.Str.occurrences ("0123" : Str) ⟨#[x]⟩ 0 ("0123" : Str).length 1 = (x - 48) :: rest := by
  have : x = 48 ∨ x = 49 ∨ x = 50 ∨ x = 51 := by omega
  rcases this with rfl | rfl | rfl | rfl <;> exact ⟨[], by decide +kernel⟩
theorem sq_size : ∀ (ad : List Nat) (x : Int × Int × Int), 0 ≤ x.2.2 → x.2.2 ≤ 4096 → 0 ≤ (ad.foldl sqStep x).2.2 ∧ (ad.foldl sqStep x).2.2 ≤ 4096
  | [], x, h0, h1 => ⟨h0, h1⟩
  | d :: ad, x, h0, h1 => sq_size ad (sqStep x d) (by unfold sqStep; dsimp only; omega) (by unfold sqStep; dsimp only; omega)
theorem pow_le_4096 {n : Nat} (h : n ≤ 12) : (2 : Int) ^ n ≤ 4096 := by
  have : ∀ n, n ≤ 12 → (2 : Int) ^ n ≤ 4096 := by decide
  exact this n h
def spBoxOf : Sp := fun vs H Q _ => ∃ (n : Nat) (ad : List Nat), vs = [.int n, .str (strOf ad)] ∧ n ≤ 12 ∧ Figs n ad ∧
  ∀ p H', Same H H' → H' p = some (.tup [.int (sqOf n ad).1, .int (sqOf n ad).2.1, .int (sqOf n ad).2.2]) → Q (.ref p) H'
/-! box_of: slots 0 n, 1 address, 2 row, 3 column, 4 side, 5 figure, 6 quarter -/
abbrev s_box_of : Stmt := top 17
theorem sc_box_of : FnScope ["n", "address", "row", "column", "side", "figure", "quarter"] ["n", "address"] (defScope s_box_of) := ⟨rfl, rfl, rfl, by decide +kernel, rfl, by decide +kernel, by decide +kernel⟩
theorem c_box_of (T : Txt K mg C) : Cal P w K mg base 4 "box_of" spBoxOf := by
  have G_want_size := c_want_size (P := P) (w := w) (base := base) T
  have G_want_address := c_want_address (P := P) (w := w) (base := base) T
  refine T.d_box_of.cal sc_box_of (fun vs H Q E h => ?_) (fun f cdv A outer s H vs Q E hr h => ?_)
  · obtain ⟨n, ad, rfl, _⟩ := h
    rfl
  obtain ⟨n, ad, rfl, hn, ⟨hl, hf⟩, q⟩ := h
  refine ⟨_, (pss_cons (ps_expr (pe_c G_want_size hr (by decide) (by rfl) (pa_cons (pv 0) pa_nil)))
    (pss_cons (ps_expr (pe_c G_want_address hr (by decide) (by rfl) (pa_cons (pv 0) (pa_cons (pv 1) pa_nil))))
    (pss_cons (ps_set (i := 2) sc_box_of.nd rfl (Or.inl rfl) pe_int)
    (pss_cons (ps_set (i := 3) sc_box_of.nd rfl (Or.inl rfl) pe_int)
    (pss_cons (ps_set (i := 4) sc_box_of.nd rfl (Or.inl rfl) (pe_op op_shl pe_int (pv 0)))
    (pss_cons (ps_for PassesOwn.never rfl (pi_str (pv 1)) (pg_name (i := 5) sc_box_of.nd rfl (Or.inl rfl))
      (pss_cons (ps_set (i := 6) sc_box_of.nd rfl (Or.inl rfl) (pe_bm PySem.F.plainAttrs_str PySem.F.slot_str_index PySem.F.type_str_index mt_idx (pe_gl (by rfl) T.gFG) (pa_cons (pv 5) pa_nil)))
      (pss_cons (ps_set (i := 4) sc_box_of.nd rfl (Or.inl rfl) (pe_op op_fdiv (pv 4) pe_int))
      (pss_cons (ps_set (i := 2) sc_box_of.nd rfl (Or.inl rfl) (pe_op op_add (pv 2) (pe_op op_mul (pv 4) (pe_op op_fdiv (pv 6) pe_int))))
      (pss_one (ps_set (i := 3) sc_box_of.nd rfl (Or.inl rfl) (pe_op op_add (pv 3) (pe_op op_mul (pv 4) (pe_op op_mod (pv 6) pe_int)))))))))
    (pss_one (ps_ret (pe_tup (pa_cons (pv 2) (pa_cons (pv 3) (pa_cons (pv 4) pa_nil)))))))))))), ?_⟩
  refine ⟨_, rfl, n, rfl, by omega, by omega, ?_⟩
  refine ⟨_, rfl, _, rfl, n, ad, rfl, hn, ⟨hl, hf⟩, fun H1 s1 => ?_⟩
  refine ⟨_, rfl, 1, n, rfl, rfl, ⟨by omega, by omega, by decide⟩, ?_⟩
  have e0 : (1 : Int) * 2 ^ (n : Int).toNat = (2 : Int) ^ n := by rw [Int.one_mul]; rfl
  have z0 := two_pow_pos n
  have z1 := pow_le_4096 hn
  refine ⟨_, rfl, strOf ad, rfl, for_it walk_str (fun i σ H' => Same H H' ∧ ∃ v5 v6, σ = [some (.int n), some (.str (strOf ad)), some (.int ((ad.take i).foldl sqStep (0, 0, (2 : Int) ^ n)).1), some (.int ((ad.take i).foldl sqStep (0, 0, (2 : Int) ^ n)).2.1), some (.int ((ad.take i).foldl sqStep (0, 0, (2 : Int) ^ n)).2.2), v5, v6])
    ⟨s1, none, none, by show ([some (.int n), some (.str (strOf ad)), some (.int 0), some (.int 0), some (.int (1 * 2 ^ (n : Int).toNat)), none, none] : List (Option V)) = _; rw [e0]; rfl⟩ (fun _ _ _ _ _ => trivial) ?_ ?_⟩
  · rintro i x σ H2 H3 hi ⟨s2, v5, v6, rfl⟩ ⟨rfl, c, hc, rfl⟩
    have hci : ad[i]? = some c := by
      have : (strOf ad).cps.toList[i]? = some c := by rw [Array.getElem?_toList]; exact hc
      exact this
    have hcf := hf c (List.mem_of_getElem? hci)
    obtain ⟨rest, ho⟩ := fig_at hcf
    rw [take_snoc hci, List.foldl_append]
    generalize hX : (ad.take i).foldl sqStep (0, 0, (2 : Int) ^ n) = X
    have hs := sq_size (ad.take i) (0, 0, (2 : Int) ^ n) (Int.le_of_lt z0) z1
    rw [hX] at hs
    obtain ⟨X1, X2, X3⟩ := X
    dsimp only at hs
    refine ⟨rfl, _, rfl, _, _, _, rest, rfl, rfl, ho, ?_⟩
    refine ⟨_, rfl, _, _, rfl, rfl, ⟨by decide, by decide⟩, ?_⟩
    refine ⟨_, rfl, _, rfl, _, rfl, _, _, rfl, rfl, ⟨by decide, by decide⟩, _, _, rfl, rfl, .inl ⟨by dsimp only; omega, by dsimp only; omega⟩, _, _, rfl, rfl, ?_⟩
    refine ⟨_, rfl, _, rfl, _, rfl, _, _, rfl, rfl, (by show (0 : Int) < 2; decide), _, _, rfl, rfl, .inl ⟨by dsimp only; omega, by dsimp only; omega⟩, _, _, rfl, rfl, ?_⟩
    exact ⟨s2, _, _, rfl⟩
  · rintro σ H2 ⟨s2, v5, v6, rfl⟩
    have e : ad.take (strOf ad).cps.size = ad := by
      have : (strOf ad).cps.size = ad.length := rfl
      rw [this, List.take_length]
    rw [e]
    refine ⟨_, rfl, _, rfl, _, rfl, (by show 3 ≤ sizeLine; decide), fun p hp => ?_⟩
    exact q p _ (same_then s2 hp _) upd_same
def spBeyond : Sp := fun vs H Q _ => ∃ x f s : Int, vs = [.int x, .int f, .int s] ∧ Q (.int (bey x f s)) H
/-! beyond: slots 0 number, 1 first, 2 size -/
abbrev s_beyond : Stmt := top 34
theorem sc_beyond : FnScope ["number", "first", "size"] ["number", "first", "size"] (defScope s_beyond) := ⟨rfl, rfl, rfl, by decide +kernel, rfl, by decide +kernel, by decide +kernel⟩
theorem c_beyond (T : Txt K mg C) : Cal P w K mg base 1 "beyond" spBeyond := by
  refine T.d_beyond.cal sc_beyond (fun vs H Q E h => ?_) (fun f cdv A outer s H vs Q E hr h => ?_)
  · obtain ⟨x, f, s, rfl, _⟩ := h
    rfl
  obtain ⟨x, f, z, rfl, q⟩ := h
  refine ⟨_, (pss_one (ps_ret (pe_callB (call_max3 rfl) (by rfl) T.b_max (by decide +kernel) (pa_cons (pe_op op_sub (pv 1) (pv 0)) (pa_cons (pe_op op_sub (pv 0) (pe_op op_sub (pe_op op_add (pv 1) (pv 2)) pe_int)) (pa_cons pe_int pa_nil)))))), ?_⟩
  refine ⟨_, rfl, _, rfl, _, _, rfl, rfl, _, rfl, _, rfl, _, rfl, _, _, rfl, rfl, _, _, rfl, rfl, _, _, rfl, rfl, _, _, _, rfl, ?_⟩
  exact q
def rkV (b : Rk) (t : Addr) : List V := [.int b.far, .ref t]
/-- a rank, a tuple in a tuple -/
def RkAt (H : Hp) (a : Addr) (b : Rk) : Prop := ∃ t, H a = some (.tup [.int b.far, .ref t]) ∧ H t = some (.tup [.int b.x, .int b.y])
theorem RkAt.same {H H' : Hp} (s : Same H H') {a : Addr} {b : Rk} (h : RkAt H a b) : RkAt H' a b := by
  obtain ⟨t, h1, h2⟩ := h
  exact ⟨t, s _ _ h1, s _ _ h2⟩
def spRank : Sp := fun vs H Q _ => ∃ (b : Addr) (r c s row col : Int), vs = [.ref b, .int row, .int col] ∧ H b = some (.tup [.int r, .int c, .int s]) ∧
  ∀ p H', Same H H' → RkAt H' p (rk row col r c s) → Q (.ref p) H'
/-! rank: slots 0 box, 1 row, 2 column, 3 first, 4 left, 5 size, 6 high, 7 wide, 8 far, 9 found -/
abbrev s_rank : Stmt := top 35
theorem sc_rank : FnScope ["box", "row", "column", "first", "left", "size", "high", "wide", "far", "found"] ["box", "row", "column"] (defScope s_rank) := ⟨rfl, rfl, rfl, by decide +kernel, rfl, by decide +kernel, by decide +kernel⟩
theorem c_rank (T : Txt K mg C) : Cal P w K mg base 2 "rank" spRank := by
  have G_beyond := c_beyond (P := P) (w := w) (base := base) T
  refine T.d_rank.cal sc_rank (fun vs H Q E h => ?_) (fun f cdv A outer s H vs Q E hr h => ?_)
  · obtain ⟨b, r, c, s, row, col, rfl, _⟩ := h
    rfl
  obtain ⟨b, r, c, z, row, col, rfl, hb, q⟩ := h
  refine ⟨_, (pss_cons (ps_asg (pv 0) (pg_tup rfl (pgs_cons (pg_name (i := 3) sc_rank.nd rfl (Or.inl rfl)) (pgs_cons (pg_name (i := 4) sc_rank.nd rfl (Or.inl rfl)) (pgs_cons (pg_name (i := 5) sc_rank.nd rfl (Or.inl rfl)) pgs_nil)))))
    (pss_cons (ps_set (i := 6) sc_rank.nd rfl (Or.inl rfl) (pe_c G_beyond hr (by decide) (by rfl) (pa_cons (pv 1) (pa_cons (pv 3) (pa_cons (pv 5) pa_nil)))))
    (pss_cons (ps_set (i := 7) sc_rank.nd rfl (Or.inl rfl) (pe_c G_beyond hr (by decide) (by rfl) (pa_cons (pv 2) (pa_cons (pv 4) (pa_cons (pv 5) pa_nil)))))
    (pss_cons (ps_set (i := 8) sc_rank.nd rfl (Or.inl rfl) (pe_callB (call_mx2 rfl) (by rfl) T.b_max (by decide +kernel) (pa_cons (pv 6) (pa_cons (pv 7) pa_nil))))
    (pss_cons (ps_set (i := 9) sc_rank.nd rfl (Or.inl rfl) (pe_callB (call_mx2 rfl) (by rfl) T.b_max (by decide +kernel) (pa_cons (pv 3) (pa_cons (pe_op op_sub (pv 1) (pv 8)) pa_nil))))
    (pss_cons (ps_if (PW.pt (pw_or (pt_cmpR op_eq (pe_op op_sub (pv 1) (pv 9)) (pv 8) (nomark _)) (pw_or1 (pt_cmpR op_eq (pe_op op_sub (pv 9) (pv 1)) (pv 8) (nomark _)))))
      (pss_one (ps_ret (pe_tup (pa_cons (pv 8) (pa_cons (pe_tup (pa_cons (pv 9) (pa_cons (pe_callB (call_mx2 rfl) (by rfl) T.b_max (by decide +kernel) (pa_cons (pv 4) (pa_cons (pe_op op_sub (pv 2) (pv 8)) pa_nil))) pa_nil))) pa_nil)))))
      pss_nil)
    (pss_cons (ps_if (pt_cmpR op_gt (pv 4) (pv 2) (nomark _))
      (pss_one (ps_ret (pe_tup (pa_cons (pv 8) (pa_cons (pe_tup (pa_cons (pv 9) (pa_cons (pv 4) pa_nil))) pa_nil)))))
      pss_nil)
    (pss_one (ps_ret (pe_tup (pa_cons (pv 8) (pa_cons (pe_tup (pa_cons (pv 9) (pa_cons (pe_op op_sub (pv 2) (pv 8)) pa_nil))) pa_nil)))))))))))), ?_⟩
  refine ⟨_, rfl, b, _, rfl, SqT.of hb, rfl, _, _, rfl, _, _, rfl, _, _, rfl, rfl, ?_⟩
  refine ⟨_, rfl, _, rfl, _, rfl, row, r, z, rfl, ?_⟩
  refine ⟨_, rfl, _, rfl, _, rfl, col, c, z, rfl, ?_⟩
  refine ⟨_, rfl, _, rfl, _, _, rfl, ?_⟩
  refine ⟨_, rfl, _, rfl, _, rfl, _, _, rfl, rfl, _, _, rfl, ?_⟩
  have e0 : rk row col r c z = if row - max r (row - max (bey row r z) (bey col c z)) = max (bey row r z) (bey col c z) ∨ max r (row - max (bey row r z) (bey col c z)) - row = max (bey row r z) (bey col c z) then ⟨max (bey row r z) (bey col c z), max r (row - max (bey row r z) (bey col c z)), max c (col - max (bey row r z) (bey col c z))⟩
    else if c > col then ⟨max (bey row r z) (bey col c z), max r (row - max (bey row r z) (bey col c z)), c⟩ else ⟨max (bey row r z) (bey col c z), max r (row - max (bey row r z) (bey col c z)), col - max (bey row r z) (bey col c z)⟩ := rfl
  rw [e0] at q
  clear e0
  dsimp only
  generalize max (bey row r z) (bey col c z) = far at q ⊢
  generalize max r (row - far) = found at q ⊢
  have last : (row - found = far ∨ found - row = far) → (∀ p H', Same H H' → RkAt H' p ⟨far, found, max c (col - far)⟩ → Q (.ref p) H') := fun h => by rw [if_pos h] at q; exact q
  have two : 2 ≤ sizeLine := by decide
  refine ⟨_, rfl, _, rfl, _, _, rfl, rfl, _, rfl, rfl, _, rfl, ?_⟩
  refine ite2 (fun c1 => ?_) (fun c1 => ?_)
  · refine iteT ?_
    refine ⟨_, rfl, _, rfl, _, rfl, _, rfl, _, rfl, _, _, rfl, rfl, _, _, rfl, two, fun t ht => ⟨two, fun p hp => ?_⟩⟩
    exact last (.inl (eqi c1)) p _ (same_then (same_new ht _) hp _) ⟨t, upd_same, (same_new hp _) _ _ upd_same⟩
  · refine ⟨_, rfl, _, rfl, _, _, rfl, rfl, _, rfl, rfl, _, rfl, ?_⟩
    refine ite2 (fun c2 => ?_) (fun c2 => ?_)
    · refine ⟨_, rfl, _, rfl, _, rfl, _, rfl, _, rfl, _, _, rfl, rfl, _, _, rfl, two, fun t ht => ⟨two, fun p hp => ?_⟩⟩
      exact last (.inr (eqi c2)) p _ (same_then (same_new ht _) hp _) ⟨t, upd_same, (same_new hp _) _ _ upd_same⟩
    · have no : ¬ (row - found = far ∨ found - row = far) := fun h => h.elim (nei c1) (nei c2)
      rw [if_neg no] at q
      refine ⟨_, rfl, _, rfl, _, _, rfl, rfl, _, rfl, ?_⟩
      refine ite2 (fun c3 => ?_) (fun c3 => ?_)
      · have c3' : c > col := of_decide_eq_true c3
        rw [if_pos c3'] at q
        refine ⟨_, rfl, _, rfl, _, rfl, two, fun t ht => ⟨two, fun p hp => ?_⟩⟩
        exact q p _ (same_then (same_new ht _) hp _) ⟨t, upd_same, (same_new hp _) _ _ upd_same⟩
      · have c3' : ¬ c > col := fun z => c3 (decide_eq_true z)
        rw [if_neg c3'] at q
        refine ⟨_, rfl, _, rfl, _, rfl, _, rfl, _, _, rfl, rfl, two, fun t ht => ⟨two, fun p hp => ?_⟩⟩
        exact q p _ (same_then (same_new ht _) hp _) ⟨t, upd_same, (same_new hp _) _ _ upd_same⟩
def spIsNumber : Sp := fun vs H Q _ => ∃ i m : Int, vs = [.int i, .int m] ∧ 0 ≤ i ∧ i < m ∧ Q (.bl true) H
/-! is_number: slots 0 thing, 1 most -/
abbrev s_is_number : Stmt := top 22
theorem sc_is_number : FnScope ["thing", "most"] ["thing", "most"] (defScope s_is_number) := ⟨rfl, rfl, rfl, by decide +kernel, rfl, by decide +kernel, by decide +kernel⟩
theorem c_is_number (T : Txt K mg C) : Cal P w K mg base 2 "is_number" spIsNumber := by
  have G_is_whole := c_is_whole (P := P) (w := w) (base := base) T
  refine T.d_is_number.cal sc_is_number (fun vs H Q E h => ?_) (fun f cdv A outer s H vs Q E hr h => ?_)
  · obtain ⟨i, m, rfl, _⟩ := h
    rfl
  obtain ⟨i, m, rfl, h0, h1, q⟩ := h
  refine ⟨_, (pss_one (ps_ret (pe_and (pe_c G_is_whole hr (by decide) (by rfl) (pa_cons (pv 0) pa_nil)) (pe_one (pe_chain op_le op_lt pe_int (pv 0) (pv 1)))))), ?_⟩
  refine ⟨_, rfl, i, rfl, true, rfl, iteT ?_⟩
  refine ⟨_, rfl, _, _, rfl, rfl, _, rfl, ?_⟩
  rw [decide_eq_true h0]
  refine iteT ⟨_, rfl, _, _, rfl, rfl, ?_⟩
  exact bl_t h1 q
theorem rowV_get {q : Qd} {i : Nat} {x : V} (h : (rowV q)[i]? = some x) : ∃ m : Nat, x = .int m ∧ (m = q.a ∨ m = q.b ∨ m = q.c ∨ m = q.d) ∧ i < 4 ∧ m = qat q i := by
  match i, h with
  | 0, h => exact ⟨q.a, (Option.some.inj h).symm, .inl rfl, by omega, rfl⟩
  | 1, h => exact ⟨q.b, (Option.some.inj h).symm, .inr (.inl rfl), by omega, rfl⟩
  | 2, h => exact ⟨q.c, (Option.some.inj h).symm, .inr (.inr (.inl rfl)), by omega, rfl⟩
  | 3, h => exact ⟨q.d, (Option.some.inj h).symm, .inr (.inr (.inr rfl)), by omega, rfl⟩
  | i + 4, h => simp [rowV] at h
def spIsRow : Sp := fun vs H Q _ => ∃ (b : Addr) (q : Qd) (i : Nat), vs = [.ref b, .int i] ∧ H b = some (.tup (rowV q)) ∧ q.a < i + 2 ∧ q.b < i + 2 ∧ q.c < i + 2 ∧ q.d < i + 2 ∧ ∀ H', Same H H' → Q (.bl true) H'
/-! is_row: slots 0 thing, 1 place, 2 one; cells place -/
abbrev s_is_row : Stmt := top 23
theorem sc_is_row : FnScope ["thing", "place", "one"] ["thing", "place"] (defScope s_is_row) := ⟨rfl, rfl, rfl, by decide +kernel, rfl, by decide +kernel, by decide +kernel⟩
theorem c_is_row (T : Txt K mg C) : Cal P w K mg base 3 "is_row" spIsRow := by
  have G_is_number := c_is_number (P := P) (w := w) (base := base) T
  refine T.d_is_row.cal sc_is_row (fun vs H Q E h => ?_) (fun f cdv A outer s H vs Q E hr h => ?_)
  · obtain ⟨b, q, i, rfl, _⟩ := h
    rfl
  obtain ⟨b, r, n, rfl, hb, ha, hbb, hc, hd, q⟩ := h
  refine ⟨_, (pss_one (ps_ret (pe_and (pe_callB call_isi (by rfl) T.b_isinstance (by decide +kernel) (pa_cons (pv 0) (pa_cons (pe_bltn (v := .ty "tuple") (by rfl) T.b_tuple (by decide +kernel) rfl) pa_nil))) (pe_and (pe_cmpR op_eq (pe_callB call_len_seq (by rfl) T.b_len (by decide +kernel) (pa_cons (pv 0) pa_nil)) pe_int (nomark _)) (pe_one (pe_callB (cr_all rfl) (by rfl) T.b_all (by decide +kernel) (pa_cons (pe_lc (own := [("one", 2)]) (g := gName 2) rfl sc_is_row.nd (pi_tup (pv 0)) (blkOk_by (N := ["thing", "place", "one"]) (sc := defScope s_is_row) (by decide +kernel)) (fun _ _ _ _ _ => (pg_name (i := 2) sc_is_row.nd rfl (Or.inl rfl))) (fun _ _ _ _ _ => pts_nil) (fun _ _ _ _ _ => (pe_c G_is_number hr (by decide) (by rfl) (pa_cons (pv 2) (pa_cons (pe_op op_add (pv 1) pe_int) pa_nil))))) pa_nil))))))), ?_⟩
  refine ⟨_, rfl, _, _, _, _, true, rfl, .ty _, .base (.tup hb), kit_ty (by decide +kernel), true, rfl, iteT ?_⟩
  refine ⟨_, rfl, b, _, rfl, .inr (SqT.of hb), rfl, _, rfl, iteT ?_⟩
  refine ⟨_, rfl, b, rfl, ⟨_, SqT.of hb⟩, fun D hD => lc_it (walk_tup (xs := rowV r)) (fun i H' => Same H H' ∧ H' D = some (.lst ((List.replicate i true).map V.bl))) ⟨same_new hD _, upd_same⟩ (fun _ _ _ ⟨s1, _⟩ => SqT.of (s1 _ _ hb)) ?_ ?_⟩
  · rintro i x H1 H2 hi ⟨s1, h1⟩ ⟨rfl, hx⟩
    obtain ⟨m, rfl, hm, h4, _⟩ := rowV_get hx
    refine ⟨rfl, ?_⟩
    refine ⟨_, rfl, _, rfl, _, _, rfl, rfl, m, _, rfl, by omega, by omega, _, h1, ?_, ?_⟩
    · rw [List.length_map, List.length_replicate]
      exact sz_lt (by omega)
    · refine ⟨same_mut s1 hD _, ?_⟩
      rw [upd_same, List.replicate_succ']
      simp
  · rintro H1 ⟨s1, h1⟩
    refine ⟨D, _, rfl, SqL.of h1, ?_⟩
    have e2 : (List.replicate (rowV r).length true).all id = true := by simp
    rw [e2]
    exact q _ s1
theorem natsV_snoc (l : List Nat) (x : Nat) : natsV (l ++ [x]) = natsV l ++ [.int x] := by simp [natsV]
theorem natsV_at {l : List Nat} {m : Nat} (h : m < l.length) : atI (natsV l) (m : Int) = some (.int (nth l m)) := by
  refine atI_nat ?_
  unfold natsV QF.nth
  rw [List.getElem?_map, List.getD_eq_getElem?_getD, List.getElem?_eq_getElem h]
  rfl
/-- the four numbers of a row, looked up in a table -/
def four (F : List Nat) (q : Qd) : List Nat := [nth F q.a, nth F q.b, nth F q.c, nth F q.d]
theorem four_take (F : List Nat) (q : Qd) {i : Nat} {m : Nat} (h4 : i < 4) (e : m = qat q i) : (four F q).take (i + 1) = (four F q).take i ++ [nth F m] := by
  match i, h4 with
  | 0, _ => rw [e]; rfl
  | 1, _ => rw [e]; rfl
  | 2, _ => rw [e]; rfl
  | 3, _ => rw [e]; rfl
def spDepthsOf : Sp := fun vs H Q _ => ∃ (ra : Addr) (bs : List Addr) (R : List Qd), vs = [.ref ra] ∧ H ra = some (.tup (bs.map V.ref)) ∧ RowsAt H bs R ∧ Gd R ∧ R.length ≤ 1000 ∧
  ∀ p H', Same H H' → H' p = some (.lst (natsV (deps R))) → Q (.ref p) H'
/-! depths_of: slots 0 rows, 1 found, 2 row, 3 number; cells found -/
abbrev s_depths_of : Stmt := top 24
theorem sc_depths_of : FnScope ["rows", "found", "row", "number"] ["rows"] (defScope s_depths_of) := ⟨rfl, rfl, rfl, by decide +kernel, rfl, by decide +kernel, by decide +kernel⟩
theorem c_depths_of (T : Txt K mg C) : Cal P w K mg base 1 "depths_of" spDepthsOf := by
  refine T.d_depths_of.cal sc_depths_of (fun vs H Q E h => ?_) (fun f cdv A outer s H vs Q E hr h => ?_)
  · obtain ⟨ra, bs, R, rfl, _⟩ := h
    rfl
  obtain ⟨ra, bs, R, rfl, hra, hR, G, hl, q⟩ := h
  refine ⟨_, (pss_cons (ps_set (i := 1) sc_depths_of.nd rfl (Or.inr rfl) (pe_lst (pa_cons pe_int (pa_cons pe_int pa_nil))))
    (pss_cons (ps_for PassesOwn.never rfl (pi_tup (pv 0)) (pg_name (i := 2) sc_depths_of.nd rfl (Or.inl rfl))
      (pss_one (ps_expr (pe_bm PySem.F.plainAttrs_list PySem.F.slot_list_append PySem.F.type_list_append mt_append (pv 1) (pa_cons (pe_op op_add pe_int (pe_callB (cr_max rfl) (by rfl) T.b_max (by decide +kernel) (pa_cons (pe_lc (own := [("number", 3)]) (g := gName 3) (te := tOp (rIxL K) (tVar 1) (tVar 3)) rfl sc_depths_of.nd (pi_tup (pv 2)) (blkOk_by (N := ["rows", "found", "row", "number"]) (sc := defScope s_depths_of) (by decide +kernel)) (fun _ _ _ _ _ => (pg_name (i := 3) sc_depths_of.nd rfl (Or.inl rfl))) (fun _ _ _ _ _ => pts_nil) (fun _ _ _ _ _ => (pe_ix ix_list (pv 1) (pv 3) (fun _ _ => rfl)))) pa_nil))) pa_nil)))))
    (pss_one (ps_ret (pv 1))))), ?_⟩
  refine ⟨(by show 2 ≤ sizeLine; decide), fun l hl0 => ?_⟩
  have hbl := hR.len
  refine ⟨_, rfl, ra, rfl, ⟨_, SqT.of (same_new hl0 _ _ _ hra)⟩, for_it (walk_tup (xs := bs.map V.ref)) (fun i σ H' => Same H H' ∧ H' l = some (.lst (natsV (deps (R.take i)))) ∧ ∃ v2 v3, σ = [some (.ref ra), some (.ref l), v2, v3])
    ⟨same_new hl0 _, upd_same, none, none, rfl⟩ (fun _ _ _ _ ⟨s1, _⟩ => SqT.of (s1 _ _ hra)) ?_ ?_⟩
  · rintro i x σ H1 H2 hi ⟨s1, h1, v2, v3, rfl⟩ ⟨rfl, hx⟩
    rw [List.length_map] at hi
    obtain ⟨b, hb, rfl⟩ : ∃ b, bs[i]? = some b ∧ x = .ref b := by
      rw [List.getElem?_map] at hx
      obtain ⟨b, e1, e2⟩ := Option.map_eq_some_iff.mp hx
      exact ⟨b, e1, e2.symm⟩
    obtain ⟨r, hr', hrow⟩ := hR.at hb
    obtain ⟨ga, gb, gc, gd⟩ := G.lt i r hr'
    have hF : (deps (R.take i)).length = i + 2 := by unfold deps; rw [tab_len, List.length_take]; simp; omega
    refine ⟨_, rfl, .inl ⟨rfl, _, SqL.of h1⟩, ?_⟩
    refine ⟨_, rfl, b, rfl, ⟨_, SqT.of (s1 _ _ hrow)⟩, fun D hD => ?_⟩
    have hDl : l ≠ D := ne_of_none h1 hD
    refine lc_it (walk_tup (xs := rowV r)) (fun j H' => Same H2 H' ∧ H' D = some (.lst (natsV ((four (deps (R.take i)) r).take j)))) ⟨same_new hD _, upd_same⟩ (fun _ _ _ ⟨s2, _⟩ => SqT.of (s2 _ _ (s1 _ _ hrow))) ?_ ?_
    · rintro j y H3 H4 hj ⟨s2, h2⟩ ⟨rfl, hy⟩
      obtain ⟨m, rfl, hm, h4, em⟩ := rowV_get hy
      refine ⟨rfl, ?_⟩
      have hml : m < (deps (R.take i)).length := by omega
      refine ⟨_, rfl, _, rfl, l, _, _, _, rfl, rfl, SqL.of (s2 _ _ h1), natsV_at hml, _, h2, ?_, ?_⟩
      · rw [natsV, List.length_map, List.length_take]
        exact sz_lt (by omega)
      · refine ⟨same_mut s2 hD _, ?_⟩
        rw [upd_same, four_take _ _ h4 em, natsV_snoc]
    · rintro H3 ⟨s2, h2⟩
      have e4 : (four (deps (R.take i)) r).take (rowV r).length = four (deps (R.take i)) r := rfl
      rw [e4] at h2
      refine ⟨D, (four (deps (R.take i)) r).map fun n : Nat => (n : Int), rfl, ?_, by show 0 < 4; decide, fun m hm hmx => ?_⟩
      · have : (natsV (four (deps (R.take i)) r)) = ((four (deps (R.take i)) r).map fun n : Nat => (n : Int)).map V.int := by
          rw [natsV, List.map_map]
          rfl
        rw [← this]
        exact SqL.of h2
      · have em : m = (max4 (nth (deps (R.take i)) r.a) (nth (deps (R.take i)) r.b) (nth (deps (R.take i)) r.c) (nth (deps (R.take i)) r.d) : Nat) := by
          have b1 := hmx (nth (deps (R.take i)) r.a : Nat) (by simp [four])
          have b2 := hmx (nth (deps (R.take i)) r.b : Nat) (by simp [four])
          have b3 := hmx (nth (deps (R.take i)) r.c : Nat) (by simp [four])
          have b4 := hmx (nth (deps (R.take i)) r.d : Nat) (by simp [four])
          simp only [four, List.map_cons, List.map_nil, List.mem_cons, List.not_mem_nil, or_false] at hm
          unfold max4
          omega
        refine ⟨_, _, rfl, rfl, l, _, _, rfl, rfl, s2 _ _ h1, ?_, ?_⟩
        · rw [natsV, List.length_map, hF]
          exact sz_lt (by omega)
        · refine ⟨fun b o e => ?_, ?_, _, _, rfl⟩
          · rw [upd_ne (ne_of_none e hl0)]
            exact s2 _ _ (s1 _ _ e)
          · rw [upd_same, take_snoc hr']
            unfold deps
            rw [tab_snoc, natsV_snoc, em]
            congr 4
  · rintro σ H1 ⟨s1, h1, v2, v3, rfl⟩
    rw [List.length_map, hbl, List.take_length] at h1
    exact ⟨_, rfl, q l _ s1 h1⟩
end
end QW
set_option Elab.async false
set_option linter.all false
set_option maxRecDepth 100000
set_option maxHeartbeats 4000000
/-! The walk, 3: the class Rows. -/
namespace QW
open PySem PySem.Spec PyProof.Rows L2 QX QF
/-! ### what such an object holds -/
theorem rn_ : ¬ (("rows" : Str) = "numbers") := by decide +kernel
theorem nr_ : ¬ (("numbers" : Str) = "rows") := by decide +kernel
def rf (l d : Addr) : List (Str × V) := putF "numbers" (.ref d) (putF "rows" (.ref l) [])
theorem rf_rows (l d : Addr) : (rf l d).lookup ("rows" : Str) = some (.ref l) := by
  unfold rf
  rw [lookup_putF, if_neg rn_, lookup_putF, if_pos rfl]
theorem rf_numbers (l d : Addr) : (rf l d).lookup ("numbers" : Str) = some (.ref d) := by
  unfold rf
  rw [lookup_putF, if_pos rfl]
theorem rf_no (l d : Addr) {m : Str} (h1 : ¬ m = "numbers") (h2 : ¬ m = "rows") : (rf l d).lookup m = none := by
  unfold rf
  rw [lookup_putF, if_neg h1, lookup_putF, if_neg h2]
  all_goals rfl
def keyOf (q : Qd) : List Key := [.inl q.a, .inl q.b, .inl q.c, .inl q.d]
theorem keyOf_kV (q : Qd) : (keyOf q).map kV = rowV q := rfl
theorem keyOf_inj {p q : Qd} (h : keyOf p = keyOf q) : p = q := by
  cases p
  cases q
  simp [keyOf] at h
  obtain ⟨h1, h2, h3, h4⟩ := h
  simp only [Qd.mk.injEq]
  omega
/-- the rows' numbers, as a dict -/
def dOf : Nat → List Qd → List (List Key × V)
  | _, [] => []
  | i, q :: R => (keyOf q, .int ((i + 2 : Nat) : Int)) :: dOf (i + 1) R
theorem dOf_len : ∀ (R : List Qd) (i : Nat), (dOf i R).length = R.length
  | [], _ => rfl
  | _ :: R, i => by simp [dOf, dOf_len R]
theorem dOf_snoc (q : Qd) : ∀ (R : List Qd) (i : Nat), dOf i (R ++ [q]) = dOf i R ++ [(keyOf q, .int ((i + R.length + 2 : Nat) : Int))]
  | [], i => rfl
  | p :: R, i => by
    show _ :: dOf (i + 1) (R ++ [q]) = _ :: (dOf (i + 1) R ++ _)
    rw [dOf_snoc q R (i + 1)]
    have : i + 1 + R.length + 2 = i + (p :: R).length + 2 := by simp; omega
    rw [this]
theorem dOf_val : ∀ (R : List Qd) (i : Nat) (q : Qd), valV (dOf i R) (keyOf q) = (idx R q).map fun j => V.int ((i + j + 2 : Nat) : Int)
  | [], _, _ => rfl
  | p :: R, i, q => by
    by_cases e : p = q
    · have hk : (keyOf p, V.int ((i + 2 : Nat) : Int)).1 = keyOf q := by rw [e]
      show valV ((keyOf p, V.int ((i + 2 : Nat) : Int)) :: dOf (i + 1) R) (keyOf q) = _
      have eI : idx (p :: R) q = if p = q then some 0 else (idx R q).map (· + 1) := rfl
      rw [valV_pos hk, eI, if_pos e]
      rfl
    · have hk : ¬ (keyOf p, V.int ((i + 2 : Nat) : Int)).1 = keyOf q := fun z => e (keyOf_inj z)
      show valV ((keyOf p, V.int ((i + 2 : Nat) : Int)) :: dOf (i + 1) R) (keyOf q) = _
      have eI : idx (p :: R) q = if p = q then some 0 else (idx R q).map (· + 1) := rfl
      rw [valV_neg hk, dOf_val R (i + 1) q, eI, if_neg e]
      cases idx R q with
      | none => rfl
      | some j =>
        have e2 : i + 1 + j + 2 = i + (j + 1) + 2 := by omega
        show some (V.int ((i + 1 + j + 2 : Nat) : Int)) = some (V.int ((i + (j + 1) + 2 : Nat) : Int))
        rw [e2]
theorem idx_not {R : List Qd} {q : Qd} (h : q ∉ R) : idx R q = none := by
  cases e : idx R q with
  | none => rfl
  | some i => exact absurd (List.mem_of_getElem? (idx_some e)) h
theorem dOf_put {R : List Qd} {q : Qd} (h : q ∉ R) : putK (dOf 0 R) (keyOf q) (.int ((R.length + 2 : Nat) : Int)) = dOf 0 (R ++ [q]) := by
  rw [putK_new _ (by rw [dOf_val, idx_not h]; rfl), dOf_snoc]
  rw [Nat.zero_add]
/-! ### a row as data -/
def rowD (q : Qd) : PyData := .tuple [.int q.a, .int q.b, .int q.c, .int q.d]
theorem rowD_eqv (p q : Qd) : PyData.eqv (rowD p) (rowD q) = decide (p = q) := by
  have e : PyData.eqv (rowD p) (rowD q) = (((p.a : Int) == (q.a : Int)) && (((p.b : Int) == (q.b : Int)) && (((p.c : Int) == (q.c : Int)) && (((p.d : Int) == (q.d : Int)) && true)))) := by simp only [rowD, PyData.eqv, PyData.eqvAll]
  rw [e]
  cases p
  cases q
  simp only [Qd.mk.injEq]
  rw [Bool.eq_iff_iff]
  simp
  omega
theorem dp_row {K : PySem.W.Frag} {H : Hp} {b : Addr} {q : Qd} (h : H b = some (.tup (rowV q))) : Dp K H (.ref b) (rowD q) :=
  .tup (SqT.of h) (.cons (.int _) (.cons (.int _) (.cons (.int _) (.cons (.int _) .nil))))
theorem rowD_shaped (q : Qd) : SeqAt.shaped (rowD q) = true := by
  simp [SeqAt.shaped, rowD, PyData.canLay0, PyData.canLayAll0, PyData.depth, PyData.depthAll]
section
variable {P : Program} {w : World} {K : PySem.W.Frag} {mg : Str → Option Value} {base : Heap} {C : Addr}
/-- all but what stands at the places xs is kept -/
def But (xs : List Addr) (H H' : Hp) : Prop := ∀ b o, b ∉ xs → H b = some o → H' b = some o
theorem But.of {xs : List Addr} {H H' : Hp} (s : Same H H') : But xs H H' := fun b o _ e => s b o e
theorem But.trans {xs : List Addr} {H H1 H2 : Hp} (a : But xs H H1) (b : But xs H1 H2) : But xs H H2 := fun c o h e => b c o h (a c o h e)
theorem But.put {xs : List Addr} {H H1 : Hp} (a : But xs H H1) {p : Addr} (h : p ∈ xs) (o : HO) : But xs H (upd H1 p o) := fun c u hc e => by
  rw [upd_ne (fun z => hc (by rw [z]; exact h))]
  exact a c u hc e
theorem But.new {xs : List Addr} {H H1 : Hp} (a : But xs H H1) {p : Addr} (h : H1 p = none) (o : HO) : But xs H (upd H1 p o) := a.trans (.of (same_new h o))
theorem But.mono {xs ys : List Addr} {H H1 : Hp} (a : But xs H H1) (h : ∀ x ∈ xs, x ∈ ys) : But ys H H1 := fun c u hc e => a c u (fun z => hc (h c z)) e
theorem But.same {xs : List Addr} {H0 H H1 : Hp} (a : But xs H H1) (s : Same H0 H) (h : ∀ x ∈ xs, H0 x = none) : Same H0 H1 := fun c u e =>
  a c u (fun z => by rw [h c z] at e; cases e) (s c u e)
def spInit (C : Addr) : Sp := fun vs H Q _ => ∃ p dx : Addr, vs = [.ref p] ∧ H p = some (.ins C dx []) ∧
  ∀ (H' : Hp) (l d : Addr), H l = none → H d = none → But [p] H H' → H' p = some (.ins C dx (rf l d)) → H' l = some (.lst []) → H' d = some (.dT []) → l ≠ d → Q .non H'
/-! Rows.__init__: slots 0 self -/
abbrev s_Rows___init__ : Stmt := inClass (top 19) 0
theorem sc_Rows___init__ : FnScope ["self"] ["self"] (defScope s_Rows___init__) := ⟨rfl, rfl, rfl, by decide +kernel, rfl, by decide +kernel, by decide +kernel⟩
theorem c_Rows (T : Txt K mg C) : Mak P w K mg base 1 "Rows" C (spInit C) := by
  refine T.d_Rows.mak sc_Rows___init__ (fun vs H Q E h => ?_) (fun f cdv A outer s H vs Q E hr h => ?_)
  · obtain ⟨p, dx, rfl, _⟩ := h
    rfl
  obtain ⟨p, dx, rfl, hp, q⟩ := h
  refine ⟨_, (pss_cons (ps_fld (pv 0) (pe_lst pa_nil) rfl)
    (pss_one (ps_fld (pv 0) pe_dnewT rfl))), ?_⟩
  refine ⟨Nat.zero_le _, fun l hl => ?_⟩
  have npl : p ≠ l := ne_of_none hp hl
  refine ⟨_, rfl, p, C, dx, [], rfl, (by rw [upd_ne npl]; exact hp), T.cl, T.nR, (by show 0 < 1000; decide), ?_⟩
  intro d hd
  have nld : l ≠ d := fun z => by
    rw [← z, upd_ne npl.symm, upd_same] at hd
    cases hd
  have npd : p ≠ d := fun z => by
    rw [← z, upd_same] at hd
    cases hd
  have hd0 : H d = none := by
    rw [upd_ne npd.symm, upd_ne nld.symm] at hd
    exact hd
  refine ⟨_, rfl, p, C, dx, _, rfl, (by rw [upd_ne npd, upd_same]), T.cl, T.nN, (by show 1 < 1000; decide), ?_⟩
  refine q _ l d hl hd0 ?_ upd_same ?_ ?_ nld
  · refine ((((But.of (Same.refl H)).new hl _).put (List.mem_singleton.mpr rfl) _).new hd _).put (List.mem_singleton.mpr rfl) _
  · rw [upd_ne npl.symm, upd_ne nld, upd_ne npl.symm, upd_same]
  · rw [upd_ne npd.symm, upd_same]
/-- the object at p, its rows R at bs, their numbers -/
structure ObAt (C : Addr) (H : Hp) (p l d : Addr) (bs : List Addr) (R : List Qd) : Prop where
  ob : ∃ dx, H p = some (.ins C dx (rf l d))
  ls : H l = some (.lst (bs.map V.ref))
  dt : H d = some (.dT (dOf 0 R))
  rw : RowsAt H bs R
theorem ObAt.pl {C : Addr} {H : Hp} {p l d : Addr} {bs : List Addr} {R : List Qd} (h : ObAt C H p l d bs R) : p ≠ l := by
  obtain ⟨dx, e⟩ := h.ob
  exact ne_of e h.ls (by intro z; cases z)
theorem ObAt.pd {C : Addr} {H : Hp} {p l d : Addr} {bs : List Addr} {R : List Qd} (h : ObAt C H p l d bs R) : p ≠ d := by
  obtain ⟨dx, e⟩ := h.ob
  exact ne_of e h.dt (by intro z; cases z)
theorem ObAt.ld {C : Addr} {H : Hp} {p l d : Addr} {bs : List Addr} {R : List Qd} (h : ObAt C H p l d bs R) : l ≠ d := ne_of h.ls h.dt (by intro z; cases z)
theorem ObAt.same {C : Addr} {H H' : Hp} {p l d : Addr} {bs : List Addr} {R : List Qd} (h : ObAt C H p l d bs R) (s : Same H H') : ObAt C H' p l d bs R := by
  obtain ⟨⟨dx, e⟩, h1, h2, h3⟩ := h
  exact ⟨⟨dx, s _ _ e⟩, s _ _ h1, s _ _ h2, h3.same s⟩
theorem RowsAt.but {xs : List Addr} {H H' : Hp} (s : But xs H H') : ∀ {bs : List Addr} {R : List Qd}, (∀ b xs', b ∈ xs → H b ≠ some (.tup xs')) → RowsAt H bs R → RowsAt H' bs R
  | [], [], _, _ => trivial
  | b :: bs, q :: R, nt, ⟨h1, h2⟩ => ⟨s _ _ (fun z => nt b _ z h1) h1, RowsAt.but s nt h2⟩
  | [], _ :: _, _, h => h.elim
  | _ :: _, [], _, h => h.elim
theorem ObAt.nt {C : Addr} {H : Hp} {p l d : Addr} {bs : List Addr} {R : List Qd} (h : ObAt C H p l d bs R) : ∀ b xs', b ∈ [l, d] → H b ≠ some (.tup xs') := by
  intro b xs' hb e
  rcases List.mem_cons.mp hb with z | z
  · rw [z, h.ls] at e; cases e
  · rw [List.mem_singleton.mp z, h.dt] at e; cases e
def spNumber (C : Addr) : Sp := fun vs H Q _ => ∃ (p l d b : Addr) (bs : List Addr) (R : List Qd) (q : Qd), vs = [.ref p, .ref b] ∧ ObAt C H p l d bs R ∧ H b = some (.tup (rowV q)) ∧ q ∉ R ∧ q ≠ q0 ∧ q ≠ q1 ∧ R.length ≤ 1000 ∧
  ∀ H', But [l, d] H H' → ObAt C H' p l d (bs ++ [b]) (R ++ [q]) → Q (.int ((R.length + 2 : Nat) : Int)) H'
/-! Rows.number: slots 0 self, 1 quarters -/
abbrev s_Rows_number : Stmt := inClass (top 19) 1
theorem sc_Rows_number : FnScope ["self", "quarters"] ["self", "quarters"] (defScope s_Rows_number) := ⟨rfl, rfl, rfl, by decide +kernel, rfl, by decide +kernel, by decide +kernel⟩
theorem c_number (T : Txt K mg C) : Met P w K mg base 1 C "number" (spNumber C) := by
  refine Mf.met T.cl T.d_number sc_Rows_number (fun vs H Q E h => ?_) (fun f cdv A outer s H vs Q E hr h => ?_)
  · obtain ⟨p, l, d, b, bs, R, q, rfl, _⟩ := h
    rfl
  obtain ⟨p, l, d, b, bs, R, r, rfl, hO, hb, hn, n0, n1, hlen, q⟩ := h
  refine ⟨_, (pss_cons (ps_if (pt_cmpR (op_inU (hu65 hr)) (pv 1) (pe_tup (pa_cons (pe_tup (pa_cons pe_int (pa_cons pe_int (pa_cons pe_int (pa_cons pe_int pa_nil))))) (pa_cons (pe_tup (pa_cons pe_int (pa_cons pe_int (pa_cons pe_int (pa_cons pe_int pa_nil))))) pa_nil))) rfl)
      (pss_one (ps_ret (pe_ix ix_tup (pv 1) pe_int (fun _ _ => rfl))))
      pss_nil)
    (pss_cons (ps_if (pt_cmp (pc_dnotin (hu_of hr) (pv 1) (pe_fld (pv 0) rfl)) rfl)
      (pss_cons (ps_expr (pe_bm PySem.F.plainAttrs_list PySem.F.slot_list_append PySem.F.type_list_append mt_append (pe_fld (pv 0) rfl) (pa_cons (pv 1) pa_nil)))
      (pss_one (ps_dput (hu_of hr) (pe_fld (pv 0) rfl) (pv 1) (pe_op op_add (pe_callB call_len_seq (by rfl) T.b_len (by decide +kernel) (pa_cons (pe_fld (pv 0) rfl) pa_nil)) pe_int) rfl)))
      pss_nil)
    (pss_one (ps_ret (pe_dget (hu_of hr) (pe_fld (pv 0) rfl) (pv 1) (fun _ _ => rfl)))))), ?_⟩
  have two : 2 ≤ sizeLine := by decide
  have four' : 4 ≤ sizeLine := by decide
  refine ⟨_, rfl, four', fun t1 g1 => ⟨four', fun t2 g2 => ⟨two, fun t3 g3 => ?_⟩⟩⟩
  have s1 : Same H (upd H t1 (.tup (rowV q0))) := same_new g1 _
  have s2 : Same H (upd (upd H t1 (.tup (rowV q0))) t2 (.tup (rowV q1))) := same_then s1 g2 _
  have s3 : Same H (upd (upd (upd H t1 (.tup (rowV q0))) t2 (.tup (rowV q1))) t3 (.tup [.ref t1, .ref t2])) := same_then s2 g3 _
  have k1 : (upd (upd (upd H t1 (.tup (rowV q0))) t2 (.tup (rowV q1))) t3 (.tup [.ref t1, .ref t2])) t1 = some (.tup (rowV q0)) := (same_new g3 _) _ _ ((same_new g2 _) _ _ upd_same)
  have k2 : (upd (upd (upd H t1 (.tup (rowV q0))) t2 (.tup (rowV q1))) t3 (.tup [.ref t1, .ref t2])) t2 = some (.tup (rowV q1)) := (same_new g3 _) _ _ upd_same
  have k3 : (upd (upd (upd H t1 (.tup (rowV q0))) t2 (.tup (rowV q1))) t3 (.tup [.ref t1, .ref t2])) t3 = some (.tup [.ref t1, .ref t2]) := upd_same
  have B3 : But [l, d] H (upd (upd (upd H t1 (.tup (rowV q0))) t2 (.tup (rowV q1))) t3 (.tup [.ref t1, .ref t2])) := .of s3
  show rInU K (.ref b) (.ref t3) (upd (upd (upd H t1 (.tup (rowV q0))) t2 (.tup (rowV q1))) t3 (.tup [.ref t1, .ref t2])) _
  generalize upd (upd (upd H t1 (.tup (rowV q0))) t2 (.tup (rowV q1))) t3 (.tup [.ref t1, .ref t2]) = H3 at s3 k1 k2 k3 B3 ⊢
  refine ⟨rowD r, [rowD q0, rowD q1], dp_row (s3 _ _ hb), .tup (SqT.of k3) (.cons (dp_row k1) (.cons (dp_row k2) .nil)), rowD_shaped r, by simp [SeqAt.shaped, rowD, PyData.canLay0, PyData.canLayAll0, PyData.depth, PyData.depthAll], _, rfl, ?_⟩
  have e : ([rowD q0, rowD q1].any fun z => PyData.eqv z (rowD r)) = false := by
    simp only [List.any_cons, List.any_nil, Bool.or_false]
    rw [rowD_eqv, rowD_eqv, decide_eq_false (fun z => n0 z.symm), decide_eq_false (fun z => n1 z.symm)]
    rfl
  rw [e]
  refine iteF ?_
  have O3 := hO.same s3
  obtain ⟨dx, ob3⟩ := O3.ob
  have g : DGet H3 d (.ref b) (valV (dOf 0 R) (keyOf r)) := DGet.t O3.dt (by rw [keyOf_kV]; exact s3 _ _ hb)
  rw [dOf_val, idx_not hn] at g
  refine ⟨_, rfl, _, rfl, p, C, dx, _, _, rfl, ob3, T.cl, T.nN, rf_numbers l d, d, _, rfl, g, _, rfl, iteT ?_⟩
  refine ⟨_, rfl, p, C, dx, _, _, rfl, ob3, T.cl, T.nR, rf_rows l d, .inl ⟨rfl, _, SqL.of O3.ls⟩, _, rfl, l, _, _, rfl, rfl, O3.ls, ?_, ?_⟩
  · rw [List.length_map, O3.rw.len]
    exact sz_lt (by omega)
  have npl := O3.pl
  have npd := O3.pd
  have nld := O3.ld
  have nbl : b ≠ l := ne_of (s3 _ _ hb) O3.ls (by intro z; cases z)
  have nbd : b ≠ d := ne_of (s3 _ _ hb) O3.dt (by intro z; cases z)
  have ob4 : (upd H3 l (.lst (bs.map V.ref ++ [.ref b]))) p = some (.ins C dx (rf l d)) := by rw [upd_ne npl]; exact ob3
  have ls4 : (upd H3 l (.lst (bs.map V.ref ++ [.ref b]))) l = some (.lst (bs.map V.ref ++ [.ref b])) := upd_same
  have dt4 : (upd H3 l (.lst (bs.map V.ref ++ [.ref b]))) d = some (.dT (dOf 0 R)) := by rw [upd_ne nld.symm]; exact O3.dt
  have b4 : (upd H3 l (.lst (bs.map V.ref ++ [.ref b]))) b = some (.tup ((keyOf r).map kV)) := by rw [upd_ne nbl, keyOf_kV]; exact s3 _ _ hb
  have ev : (((bs.map V.ref ++ [V.ref b]).length : Nat) : Int) + 1 = ((R.length + 2 : Nat) : Int) := by
    rw [List.length_append, List.length_map, O3.rw.len, List.length_singleton]
    omega
  have ob5 : (upd (upd H3 l (.lst (bs.map V.ref ++ [.ref b]))) d (.dT (dOf 0 (R ++ [r])))) p = some (.ins C dx (rf l d)) := by rw [upd_ne npd]; exact ob4
  have B5 : But [l, d] H (upd (upd H3 l (.lst (bs.map V.ref ++ [.ref b]))) d (.dT (dOf 0 (R ++ [r])))) := (B3.put (by simp) _).put (by simp) _
  have O5 : ObAt C (upd (upd H3 l (.lst (bs.map V.ref ++ [.ref b]))) d (.dT (dOf 0 (R ++ [r])))) p l d (bs ++ [b]) (R ++ [r]) := by
    refine ⟨⟨dx, ob5⟩, ?_, upd_same, ?_⟩
    · rw [upd_ne nld, upd_same, List.map_append]
      rfl
    · exact RowsAt.snoc (RowsAt.but B5 hO.nt hO.rw) (B5 b _ (by simp [nbl, nbd]) hb)
  have g5 : DGet (upd (upd H3 l (.lst (bs.map V.ref ++ [.ref b]))) d (.dT (dOf 0 (R ++ [r])))) d (.ref b) (valV (dOf 0 (R ++ [r])) (keyOf r)) := DGet.t upd_same (by rw [upd_ne nbd]; exact b4)
  have v5 : valV (dOf 0 (R ++ [r])) (keyOf r) = some (.int ((R.length + 2 : Nat) : Int)) := by
    have := valV_snoc (keyOf r) (keyOf r) (V.int ((R.length + 2 : Nat) : Int)) (dOf 0 R) (by rw [dOf_val, idx_not hn]; rfl)
    rw [if_pos rfl] at this
    rw [dOf_snoc, Nat.zero_add]
    exact this
  rw [v5] at g5
  have hput : putK (dOf 0 R) (keyOf r) (V.int ((((bs.map V.ref ++ [V.ref b]).length : Nat) : Int) + 1)) = dOf 0 (R ++ [r]) := by rw [ev]; exact dOf_put hn
  refine ⟨_, rfl, p, C, dx, _, _, rfl, ob4, T.cl, T.nR, rf_rows l d, l, _, rfl, .inl (SqL.of ls4), _, _, rfl, rfl, _, rfl, p, C, dx, _, _, rfl, ob4, T.cl, T.nN, rf_numbers l d, _, rfl, d, upd (upd H3 l (.lst (bs.map V.ref ++ [.ref b]))) d (.dT (dOf 0 (R ++ [r]))), rfl,
    .inr ⟨dOf 0 R, keyOf r, b, dt4, rfl, b4, by rw [dOf_len]; exact sz_lt (by omega), by rw [← hput]⟩, ?_⟩
  exact ⟨_, rfl, p, C, dx, _, _, rfl, ob5, T.cl, T.nN, rf_numbers l d, _, rfl, d, _, rfl, g5, q _ B5 O5⟩
end
end QW
set_option Elab.async false
set_option linter.all false
set_option maxRecDepth 100000
set_option maxHeartbeats 4000000
/-! The walk, 4: Rows, its other methods; one_of. -/
namespace QW
open PySem PySem.Spec PyProof.Rows L2 QX QF
section
variable {P : Program} {w : World} {K : PySem.W.Frag} {mg : Str → Option Value} {base : Heap} {C : Addr}
/-- the quarters of a number -/
def qq (R : List Qd) (m : Nat) : Qd := if m < 2 then ⟨m, m, m, m⟩ else R.getD (m - 2) q0
theorem qq_row {R : List Qd} {i : Nat} {q : Qd} (h : R[i]? = some q) : qq R (i + 2) = q := by
  unfold qq
  rw [if_neg (by omega), show i + 2 - 2 = i by omega, List.getD_eq_getElem?_getD, h]
  rfl
def spQuarters (C : Addr) : Sp := fun vs H Q _ => ∃ (p l d : Addr) (bs : List Addr) (R : List Qd) (m : Nat), vs = [.ref p, .int m] ∧ ObAt C H p l d bs R ∧ m < R.length + 2 ∧
  ∀ t H', Same H H' → H' t = some (.tup (rowV (qq R m))) → Q (.ref t) H'
/-! Rows.quarters: slots 0 self, 1 number -/
abbrev s_Rows_quarters : Stmt := inClass (top 19) 2
theorem sc_Rows_quarters : FnScope ["self", "number"] ["self", "number"] (defScope s_Rows_quarters) := ⟨rfl, rfl, rfl, by decide +kernel, rfl, by decide +kernel, by decide +kernel⟩
theorem c_quarters (T : Txt K mg C) : Met P w K mg base 1 C "quarters" (spQuarters C) := by
  refine Mf.met T.cl T.d_quarters sc_Rows_quarters (fun vs H Q E h => ?_) (fun f cdv A outer s H vs Q E hr h => ?_)
  · obtain ⟨p, l, d, bs, R, m, rfl, _⟩ := h
    rfl
  obtain ⟨p, l, d, bs, R, m, rfl, hO, hm, q⟩ := h
  refine ⟨_, (pss_cons (ps_if (pt_cmpR op_lt (pv 1) pe_int (nomark _))
      (pss_one (ps_ret (pe_tup (pa_cons (pv 1) (pa_cons (pv 1) (pa_cons (pv 1) (pa_cons (pv 1) pa_nil)))))))
      pss_nil)
    (pss_one (ps_ret (pe_ix ix_list (pe_fld (pv 0) rfl) (pe_op op_sub (pv 1) pe_int) (fun _ _ => rfl))))), ?_⟩
  refine ⟨_, rfl, _, _, rfl, rfl, _, rfl, ?_⟩
  refine ite2 (fun c => ?_) (fun c => ?_)
  · have c' : (m : Int) < 2 := of_decide_eq_true c
    refine ⟨_, rfl, _, rfl, _, rfl, _, rfl, (by show 4 ≤ sizeLine; decide), fun t ht => ?_⟩
    refine q t _ (same_new ht _) ?_
    rw [upd_same]
    unfold qq
    rw [if_pos (by omega)]
    rfl
  · have c' : ¬ (m : Int) < 2 := fun z => c (decide_eq_true z)
    obtain ⟨dx, ob⟩ := hO.ob
    have hi : m - 2 < R.length := by omega
    have hq : R[m - 2]? = some R[m - 2] := List.getElem?_eq_getElem hi
    obtain ⟨b, hb, hbt⟩ := hO.rw.get hq
    have e : (m : Int) - 2 = ((m - 2 : Nat) : Int) := by omega
    have at_ : atI (bs.map V.ref) ((m : Int) - 2) = some (.ref b) := by
      rw [e]
      exact atI_nat (by rw [List.getElem?_map, hb]; rfl)
    refine ⟨_, rfl, p, C, dx, _, _, rfl, ob, T.cl, T.nR, rf_rows l d, _, rfl, _, _, rfl, rfl, l, _, _, _, rfl, rfl, SqL.of hO.ls, at_, ?_⟩
    refine q b _ (Same.refl _) ?_
    have eq : qq R m = R[m - 2] := by
      have := qq_row hq
      rw [show m - 2 + 2 = m by omega] at this
      exact this
    rw [eq]
    exact hbt
/-! ### take -/
theorem But.fresh {xs : List Addr} {H H1 : Hp} (a : But xs H H1) {p : Addr} (h : H p = none) (o : HO) : But xs H (upd H1 p o) := fun c u hc e => by
  rw [upd_ne (ne_of_none e h)]
  exact a c u hc e
theorem RowsAt.put {H : Hp} {e : Addr} {o : HO} (he : ∀ ys, H e ≠ some (.tup ys)) : ∀ {bs : List Addr} {R : List Qd}, RowsAt H bs R → RowsAt (upd H e o) bs R
  | [], [], _ => trivial
  | b :: bs, q :: R, ⟨h1, h2⟩ => ⟨by rw [upd_ne (fun z => he _ (by rw [← z]; exact h1))]; exact h1, RowsAt.put he h2⟩
  | [], _ :: _, h => h.elim
  | _ :: _, [], h => h.elim
/-- another object changes -/
theorem ObAt.put {C : Addr} {H : Hp} {p l d : Addr} {bs : List Addr} {R : List Qd} (h : ObAt C H p l d bs R) {e : Addr} {xs : List V} (he : H e = some (.lst xs)) (nel : e ≠ l) (o : HO) : ObAt C (upd H e o) p l d bs R := by
  obtain ⟨⟨dx, e1⟩, h1, h2, h3⟩ := h
  have n1 : p ≠ e := ne_of e1 he (by intro z; cases z)
  have n2 : d ≠ e := ne_of h2 he (by intro z; cases z)
  exact ⟨⟨dx, by rw [upd_ne n1]; exact e1⟩, by rw [upd_ne nel.symm]; exact h1, by rw [upd_ne n2]; exact h2, h3.put fun ys z => by rw [he] at z; cases z⟩
theorem ObAt.putK {C : Addr} {H : Hp} {p l d : Addr} {bs : List Addr} {R : List Qd} (h : ObAt C H p l d bs R) {e : Addr} {kvs : List (Key × V)} (he : H e = some (.dK kvs)) (o : HO) : ObAt C (upd H e o) p l d bs R := by
  obtain ⟨⟨dx, e1⟩, h1, h2, h3⟩ := h
  have n1 : p ≠ e := ne_of e1 he (by intro z; cases z)
  have n2 : d ≠ e := ne_of h2 he (by intro z; cases z)
  have n3 : l ≠ e := ne_of h1 he (by intro z; cases z)
  exact ⟨⟨dx, by rw [upd_ne n1]; exact e1⟩, by rw [upd_ne n3]; exact h1, by rw [upd_ne n2]; exact h2, h3.put fun ys z => by rw [he] at z; cases z⟩
theorem four_id (n : Nat) (q : Qd) (ha : q.a < n) (hb : q.b < n) (hc : q.c < n) (hd : q.d < n) : four (List.range n) q = [q.a, q.b, q.c, q.d] := by
  have : ∀ m, m < n → QF.nth (List.range n) m = m := fun m h => by
    unfold QF.nth
    rw [List.getD_eq_getElem?_getD, List.getElem?_eq_getElem (by simpa using h)]
    simp
  unfold four
  rw [this _ ha, this _ hb, this _ hc, this _ hd]
def spTake (C : Addr) : Sp := fun vs H Q _ => ∃ (p a l d : Addr) (n tp : Nat) (R : List Qd), vs = [.ref p, .ref a] ∧ TellAt H a n tp R ∧ ObAt C H p l d [] [] ∧ Gd R ∧ R.length ≤ 500 ∧ tp < R.length + 2 ∧
  ∀ bs H', But [l, d] H H' → ObAt C H' p l d bs R → Q (.int tp) H'
/-! Rows.take: slots 0 self, 1 telling, 2 n, 3 top, 4 rows, 5 here, 6 row, 7 number; cells here -/
abbrev s_Rows_take : Stmt := inClass (top 19) 3
theorem sc_Rows_take : FnScope ["self", "telling", "n", "top", "rows", "here", "row", "number"] ["self", "telling"] (defScope s_Rows_take) := ⟨rfl, rfl, rfl, by decide +kernel, rfl, by decide +kernel, by decide +kernel⟩
theorem c_take (T : Txt K mg C) : Met P w K mg base 2 C "take" (spTake C) := by
  have G_number := c_number (P := P) (w := w) (base := base) T
  refine Mf.met T.cl T.d_take sc_Rows_take (fun vs H Q E h => ?_) (fun f cdv A outer s H vs Q E hr h => ?_)
  · obtain ⟨p, a, l, d, n, tp, R, rfl, _⟩ := h
    rfl
  obtain ⟨p, a, l, d, n, tp, R, rfl, ⟨ra, bs, ha, hra, hR⟩, hO, G, hlen, htp, q⟩ := h
  refine ⟨_, (pss_cons (ps_asg (pv 1) (pg_tup rfl (pgs_cons (pg_name (i := 2) sc_Rows_take.nd rfl (Or.inl rfl)) (pgs_cons (pg_name (i := 3) sc_Rows_take.nd rfl (Or.inl rfl)) (pgs_cons (pg_name (i := 4) sc_Rows_take.nd rfl (Or.inl rfl)) pgs_nil)))))
    (pss_cons (ps_set (i := 5) sc_Rows_take.nd rfl (Or.inr rfl) (pe_lst (pa_cons pe_int (pa_cons pe_int pa_nil))))
    (pss_cons (ps_for PassesOwn.never rfl (pi_tup (pv 4)) (pg_name (i := 6) sc_Rows_take.nd rfl (Or.inl rfl))
      (pss_one (ps_expr (pe_bm PySem.F.plainAttrs_list PySem.F.slot_list_append PySem.F.type_list_append mt_append (pv 5) (pa_cons (pe_mt G_number hr (by decide) (pv 0) (pa_cons (pe_callTy call_tuple_of (by rfl) T.b_tuple (by decide +kernel) (pa_cons (pe_lc (own := [("number", 7)]) (g := gName 7) (te := tOp (rIxL K) (tVar 5) (tVar 7)) rfl sc_Rows_take.nd (pi_tup (pv 6)) (blkOk_by (N := ["self", "telling", "n", "top", "rows", "here", "row", "number"]) (sc := defScope s_Rows_take) (by decide +kernel)) (fun _ _ _ _ _ => (pg_name (i := 7) sc_Rows_take.nd rfl (Or.inl rfl))) (fun _ _ _ _ _ => pts_nil) (fun _ _ _ _ _ => (pe_ix ix_list (pv 5) (pv 7) (fun _ _ => rfl)))) pa_nil)) pa_nil)) pa_nil)))))
    (pss_one (ps_ret (pe_ix ix_list (pv 5) (pv 3) (fun _ _ => rfl))))))), ?_⟩
  refine ⟨_, rfl, a, _, rfl, SqT.of ha, rfl, _, _, rfl, _, _, rfl, _, _, rfl, rfl, ?_⟩
  refine ⟨(by show 2 ≤ sizeLine; decide), fun e he => ?_⟩
  have hbl := hR.len
  have tne : ∀ (H' : Hp) (b : Addr) (xs' : List V), ObAt C H p l d [] [] → b ∈ [l, d] → H b ≠ some (.tup xs') := fun _ b xs' o hb => o.nt b xs' hb
  have keepT : ∀ {H' : Hp} {t : Addr} {xs' : List V}, But [l, d] H H' → H t = some (.tup xs') → H' t = some (.tup xs') := fun B ht => B _ _ (fun z => hO.nt _ _ z ht) ht
  refine ⟨_, rfl, ra, rfl, ⟨_, SqT.of (same_new he _ _ _ hra)⟩, for_it (walk_tup (xs := bs.map V.ref)) (fun i σ H' => But [l, d] H H' ∧ H' e = some (.lst (natsV (List.range (i + 2)))) ∧ (∃ bs', ObAt C H' p l d bs' (R.take i)) ∧ ∃ v6 v7, σ = [some (.ref p), some (.ref a), some (.int n), some (.int tp), some (.ref ra), some (.ref e), v6, v7])
    ⟨.of (same_new he _), upd_same, ⟨[], by rw [List.take_zero]; exact hO.same (same_new he _)⟩, none, none, rfl⟩ (fun _ _ _ _ ⟨B, _⟩ => SqT.of (keepT B hra)) ?_ ?_⟩
  · rintro i x σ H1 H2 hi ⟨B, h1, ⟨bs', O1⟩, v6, v7, rfl⟩ ⟨rfl, hx⟩
    rw [List.length_map] at hi
    obtain ⟨b, hb, rfl⟩ : ∃ b, bs[i]? = some b ∧ x = .ref b := by
      rw [List.getElem?_map] at hx
      obtain ⟨b, e1, e2⟩ := Option.map_eq_some_iff.mp hx
      exact ⟨b, e1, e2.symm⟩
    obtain ⟨r, hr', hrow⟩ := hR.at hb
    obtain ⟨ga, gb, gc, gd⟩ := G.lt i r hr'
    have hrow1 := keepT B hrow
    have hF : (List.range (i + 2)).length = i + 2 := List.length_range
    have hid := four_id (i + 2) r ga gb gc gd
    refine ⟨_, rfl, .inl ⟨rfl, _, SqL.of h1⟩, ?_⟩
    obtain ⟨dx, ob1⟩ := O1.ob
    refine ⟨_, rfl, p, dx, _, rfl, ob1, rf_no l d (by decide +kernel) (by decide +kernel), ?_⟩
    refine ⟨_, rfl, b, rfl, ⟨_, SqT.of hrow1⟩, fun D hD => ?_⟩
    refine lc_it (walk_tup (xs := rowV r)) (fun j H' => Same H2 H' ∧ H' D = some (.lst (natsV ((four (List.range (i + 2)) r).take j)))) ⟨same_new hD _, upd_same⟩ (fun _ _ _ ⟨s2, _⟩ => SqT.of (s2 _ _ hrow1)) ?_ ?_
    · rintro j y H3 H4 hj ⟨s2, h2⟩ ⟨rfl, hy⟩
      obtain ⟨m, rfl, hm, h4, em⟩ := rowV_get hy
      refine ⟨rfl, ?_⟩
      have hml : m < (List.range (i + 2)).length := by omega
      refine ⟨_, rfl, _, rfl, e, _, _, _, rfl, rfl, SqL.of (s2 _ _ h1), natsV_at hml, _, h2, ?_, ?_⟩
      · rw [natsV, List.length_map, List.length_take]
        exact sz_lt (by omega)
      · refine ⟨same_mut s2 hD _, ?_⟩
        rw [upd_same, four_take _ _ h4 em, natsV_snoc]
    · rintro H3 ⟨s2, h2⟩
      have e4 : (four (List.range (i + 2)) r).take (rowV r).length = four (List.range (i + 2)) r := rfl
      rw [e4, hid] at h2
      have h2' : H3 D = some (.lst (rowV r)) := h2
      refine ⟨D, _, rfl, .inl ⟨SqL.of h2', fun t ht => ?_⟩⟩
      have s3 : Same H2 (upd H3 t (.tup (rowV r))) := same_then s2 ht _
      have nR : r ∉ R.take i := fun z => by
        obtain ⟨j, hj, ej⟩ := List.getElem_of_mem z
        rw [List.getElem_take] at ej
        have hj' : j < i ∧ j < R.length := by
          rw [List.length_take] at hj
          omega
        have hiR : i < R.length := by omega
        have hri : R[i] = r := (List.getElem?_eq_some_iff.mp hr').2
        have ne := (List.pairwise_iff_getElem.mp G.nd) j i hj'.2 hiR hj'.1
        rw [ej, hri] at ne
        exact ne rfl
      have mR : r ∈ R := List.mem_of_getElem? hr'
      refine ⟨p, l, d, t, bs', R.take i, r, rfl, O1.same s3, upd_same, nR, fun z => G.n0 (by rw [← z]; exact mR), fun z => G.n1 (by rw [← z]; exact mR), by rw [List.length_take]; omega, fun H5 B5 O5 => ?_⟩
      have nel : e ≠ l := fun z => by
        rw [z, O1.ls] at h1
        have q1 := congrArg (fun o => match o with | some (HO.lst xs) => xs.length | _ => 0) h1
        simp only [natsV, List.length_map, List.length_range, O1.rw.len, List.length_take] at q1
        omega
      have ned : e ≠ d := fun z => by
        rw [z, O1.dt] at h1
        cases h1
      have h5 : H5 e = some (.lst (natsV (List.range (i + 2)))) := B5 _ _ (by simp [nel, ned]) (s3 _ _ h1)
      refine ⟨e, _, _, rfl, rfl, h5, ?_, ?_⟩
      · rw [natsV, List.length_map, hF]
        exact sz_lt (by omega)
      · have hti : (R.take i).length = i := by rw [List.length_take]; omega
        refine ⟨?_, ?_, ⟨bs' ++ [t], ?_⟩, _, _, rfl⟩
        · exact ((B.trans (.of s3)).trans B5).fresh he _
        · rw [upd_same, hti]
          have : List.range (i + 1 + 2) = List.range (i + 2) ++ [i + 2] := List.range_succ
          rw [this, natsV_snoc]
        · rw [take_snoc hr']
          exact O5.put h5 nel _
  · rintro σ H1 ⟨B, h1, ⟨bs', O1⟩, v6, v7, rfl⟩
    have e1 : R.take (bs.map V.ref).length = R := by rw [List.length_map, hbl, List.take_length]
    rw [e1] at O1
    have htp' : tp < (List.range ((bs.map V.ref).length + 2)).length := by rw [List.length_range, List.length_map, hbl]; exact htp
    have hv : QF.nth (List.range ((bs.map V.ref).length + 2)) tp = tp := by
      unfold QF.nth
      rw [List.getD_eq_getElem?_getD, List.getElem?_eq_getElem htp']
      simp
    have at_ := natsV_at htp'
    rw [hv] at at_
    exact ⟨_, rfl, _, rfl, e, _, _, _, rfl, rfl, SqL.of h1, at_, q bs' H1 B O1⟩
end
end QW
set_option Elab.async false
set_option linter.all false
set_option maxRecDepth 100000
set_option maxHeartbeats 4000000
/-! The walk, 5: Rows.order, Rows.shape, one_of. -/
namespace QW
open PySem PySem.Spec PyProof.Rows L2 QX QF
theorem ordMono {F : List Qd} : ∀ {n m t t' : Nat}, Ord F n m t t' → ∀ {n'}, n ≤ n' → Ord F n' m t t' := by
  intro n m t t' h
  induction h with
  | low n m t h => exact fun _ => .low _ _ _ h
  | row n t t1 t2 t3 t4 q hq ha hb hc hd h ia ib ic id =>
    intro n' hn
    match n', hn with
    | k + 1, hn => exact .row k t t1 t2 t3 t4 q hq (ia (by omega)) (ib (by omega)) (ic (by omega)) (id (by omega)) h
def idD (t : Nat) : List (Key × V) := (List.range t).map fun i => (.inl ((i + 2 : Nat) : Int), .int ((i + 2 : Nat) : Int))
theorem idD_len (t : Nat) : (idD t).length = t := by simp [idD]
theorem idD_succ (t : Nat) : idD (t + 1) = idD t ++ [(.inl ((t + 2 : Nat) : Int), .int ((t + 2 : Nat) : Int))] := by
  unfold idD
  rw [List.range_succ, List.map_append]
  rfl
theorem key_ne {m n : Nat} (h : m ≠ n) : ¬ (Sum.inl (m : Int) : Key) = Sum.inl (n : Int) := fun z => h (by have := Sum.inl.inj z; omega)
theorem dK_none {A B : List (Key × V)} {k : Key} (h : valV A k = none) : valV (A ++ B) k = valV B k := by
  induction A with
  | nil => rfl
  | cons a A ih =>
    by_cases e : a.1 = k
    · rw [valV_pos e] at h; cases h
    · rw [valV_neg e] at h
      rw [List.cons_append, valV_neg e]
      exact ih h
theorem dK_some {A B : List (Key × V)} {k : Key} {v : V} (h : valV A k = some v) : valV (A ++ B) k = some v := by
  induction A with
  | nil => cases h
  | cons a A ih =>
    by_cases e : a.1 = k
    · rw [valV_pos e] at h
      rw [List.cons_append, valV_pos e]
      exact h
    · rw [valV_neg e] at h
      rw [List.cons_append, valV_neg e]
      exact ih h
theorem idD_none : ∀ (t m : Nat), m < 2 ∨ t + 2 ≤ m → valV (idD t) (.inl (m : Int)) = none
  | 0, m, _ => rfl
  | t + 1, m, h => by
    rw [idD_succ, dK_none (idD_none t m (by omega))]
    exact valV_neg (key_ne (by omega))
theorem idD_some : ∀ (t m : Nat), 2 ≤ m → m < t + 2 → valV (idD t) (.inl (m : Int)) = some (.int (m : Int))
  | 0, m, h1, h2 => by omega
  | t + 1, m, h1, h2 => by
    by_cases e : m < t + 2
    · rw [idD_succ, dK_some (idD_some t m h1 e)]
    · have e2 : m = t + 2 := by omega
      subst e2
      rw [idD_succ, dK_none (idD_none t (t + 2) (.inr (Nat.le_refl _)))]
      exact valV_pos rfl
theorem idD_put (t : Nat) : putK (idD t) (.inl ((t + 2 : Nat) : Int)) (.int ((t + 2 : Nat) : Int)) = idD (t + 1) := by
  rw [putK_new _ (idD_none t (t + 2) (.inr (Nat.le_refl _))), idD_succ]
/-- the whole dict -/
def idE (t : Nat) : List (Key × V) := idD t ++ [(.inl 0, .int 0), (.inl 1, .int 1)]
theorem idE_some {t m : Nat} (h : m < t + 2) : valV (idE t) (.inl (m : Int)) = some (.int (m : Int)) := by
  unfold idE
  by_cases e : 2 ≤ m
  · exact dK_some (idD_some t m e h)
  · rw [dK_none (idD_none t m (by omega))]
    match m, e with
    | 0, _ => rfl
    | 1, _ => rfl
    | k + 2, e => exact absurd (by omega) e
theorem idE_put (t : Nat) : putK (putK (idD t) (.inl 0) (.int 0)) (.inl 1) (.int 1) = idE t := by
  have h0 : valV (idD t) (.inl 0) = none := idD_none t 0 (by omega)
  have h1 : valV (idD t) (.inl 1) = none := idD_none t 1 (by omega)
  rw [putK_new _ h0, putK_new]
  · unfold idE
    rw [List.append_assoc]
    rfl
  · rw [dK_none h1]
    rfl
theorem idE_at {t i : Nat} {k : Key} {v : V} (h : (idE t)[i]? = some (k, v)) : (i < t ∧ k = .inl ((i + 2 : Nat) : Int)) ∨ (t ≤ i ∧ (k = .inl 0 ∨ k = .inl 1)) := by
  unfold idE at h
  by_cases e : i < t
  · rw [List.getElem?_append_left (by rw [idD_len]; exact e)] at h
    unfold idD at h
    rw [List.getElem?_map, List.getElem?_range e] at h
    simp at h
    exact .inl ⟨e, h.1.symm⟩
  · rw [List.getElem?_append_right (by rw [idD_len]; omega), idD_len] at h
    refine .inr ⟨by omega, ?_⟩
    match hh : i - t, h with
    | 0, h => simp [hh] at h; exact .inl h.1.symm
    | 1, h => simp [hh] at h; exact .inr h.1.symm
    | k + 2, h => simp [hh] at h
section
variable {P : Program} {w : World} {K : PySem.W.Frag} {mg : Str → Option Value} {base : Heap} {C : Addr}
theorem ObAt.but {H H' : Hp} {p l d fd : Addr} {bs : List Addr} {R : List Qd} {kvs : List (Key × V)} (h : ObAt C H p l d bs R) (hf : H fd = some (.dK kvs)) (B : But [fd] H H') : ObAt C H' p l d bs R := by
  obtain ⟨⟨dx, e1⟩, h1, h2, h3⟩ := h
  have n1 : p ≠ fd := ne_of e1 hf (by intro z; cases z)
  have n2 : l ≠ fd := ne_of h1 hf (by intro z; cases z)
  have n3 : d ≠ fd := ne_of h2 hf (by intro z; cases z)
  refine ⟨⟨dx, B _ _ (by simp [n1]) e1⟩, B _ _ (by simp [n2]) h1, B _ _ (by simp [n3]) h2, h3.but B ?_⟩
  intro b xs hb z
  rw [List.mem_singleton.mp hb, hf] at z
  cases z
def spOrder (C : Addr) (n : Nat) : Sp := fun vs H Q _ => ∃ (p l d fd : Addr) (bs : List Addr) (R : List Qd) (m t t' : Nat), vs = [.ref p, .int m, .ref fd] ∧ ObAt C H p l d bs R ∧ R.length ≤ 500 ∧ H fd = some (.dK (idD t)) ∧ Ord R n m t t' ∧
  m < R.length + 2 ∧ Gd R ∧ ∀ H', But [fd] H H' → H' fd = some (.dK (idD t')) → Q .non H'
/-! Rows.order: slots 0 self, 1 number, 2 found, 3 quarter -/
abbrev s_Rows_order : Stmt := inClass (top 19) 4
theorem sc_Rows_order : FnScope ["self", "number", "found", "quarter"] ["self", "number", "found"] (defScope s_Rows_order) := ⟨rfl, rfl, rfl, by decide +kernel, rfl, by decide +kernel, by decide +kernel⟩
theorem c_order0 (T : Txt K mg C) : Met P w K mg base 2 C "order" (spOrder C 0) := by
  have G_quarters := c_quarters (P := P) (w := w) (base := base) T
  refine Mf.met T.cl T.d_order sc_Rows_order (fun vs H Q E h => ?_) (fun f cdv A outer s H vs Q E hr h => ?_)
  · obtain ⟨p, l, d, fd, bs, R, m, t, t', rfl, _⟩ := h
    rfl
  obtain ⟨p, l, d, fd, bs, R, m, t, t', rfl, hO, hlen, hf, ho, hm, G, q⟩ := h
  refine ⟨_, (pss_one (ps_if (PW.pt (pw_and (pt_cmpR op_gt (pv 1) pe_int (nomark _)) (pw_and1 (pt_cmp (pc_dnotin (hu_of hr) (pv 1) (pv 2)) rfl)))) pss_never pss_nil)), ?_⟩
  cases ho with
  | low _ _ _ h =>
  refine ⟨_, rfl, _, _, rfl, rfl, _, rfl, ?_⟩
  refine ite2 (fun c => ?_) (fun c => ?_)
  · have c' : (m : Int) > 1 := of_decide_eq_true c
    have g : DGet H fd (.int (m : Int)) (valV (idD t) (.inl (m : Int))) := DGet.k (k := .inl (m : Int)) hf
    rw [idD_some t m (by omega) h] at g
    refine ⟨_, rfl, _, rfl, fd, _, rfl, g, _, rfl, iteF ?_⟩
    exact q _ (.of (Same.refl _)) hf
  · exact q _ (.of (Same.refl _)) hf
theorem c_orderS (T : Txt K mg C) {n : Nat} (G_order : Met P w K mg base (n + 2) C "order" (spOrder C n)) : Met P w K mg base (n + 3) C "order" (spOrder C (n + 1)) := by
  have G_quarters := c_quarters (P := P) (w := w) (base := base) T
  refine Mf.met T.cl T.d_order sc_Rows_order (fun vs H Q E h => ?_) (fun f cdv A outer s H vs Q E hr h => ?_)
  · obtain ⟨p, l, d, fd, bs, R, m, t, t', rfl, _⟩ := h
    rfl
  obtain ⟨p, l, d, fd, bs, R, m, t, t', rfl, hO, hlen, hf, ho, hm, G, q⟩ := h
  refine ⟨_, (pss_one (ps_if (PW.pt (pw_and (pt_cmpR op_gt (pv 1) pe_int (nomark _)) (pw_and1 (pt_cmp (pc_dnotin (hu_of hr) (pv 1) (pv 2)) rfl))))
      (pss_cons (ps_for PassesOwn.never rfl (pi_tup (pe_mt G_quarters hr (by omega) (pv 0) (pa_cons (pv 1) pa_nil))) (pg_name (i := 3) sc_Rows_order.nd rfl (Or.inl rfl))
        (pss_one (ps_expr (pe_mt G_order hr (by omega) (pv 0) (pa_cons (pv 3) (pa_cons (pv 2) pa_nil))))))
      (pss_one (ps_dput (hu_of hr) (pv 2) (pv 1) (pe_op op_add (pe_callB call_lenD (by rfl) T.b_len (by decide +kernel) (pa_cons (pv 2) pa_nil)) pe_int) rfl)))
      pss_nil)), ?_⟩
  cases ho with
  | low _ _ _ h =>
    refine ⟨_, rfl, _, _, rfl, rfl, _, rfl, ?_⟩
    refine ite2 (fun c => ?_) (fun c => ?_)
    · have c' : (m : Int) > 1 := of_decide_eq_true c
      have g : DGet H fd (.int (m : Int)) (valV (idD t) (.inl (m : Int))) := DGet.k (k := .inl (m : Int)) hf
      rw [idD_some t m (by omega) h] at g
      refine ⟨_, rfl, _, rfl, fd, _, rfl, g, _, rfl, iteF ?_⟩
      exact q _ (.of (Same.refl _)) hf
    · exact q _ (.of (Same.refl _)) hf
  | row _ _ t1 t2 t3 t4 r hq ha hb hc hd h =>
    refine ⟨_, rfl, _, _, rfl, rfl, _, rfl, ?_⟩
    refine ite2 (fun c => ?_) (fun c => absurd (decide_eq_true (by omega)) c)
    have g : DGet H fd (.int ((t4 + 2 : Nat) : Int)) (valV (idD t) (.inl ((t4 + 2 : Nat) : Int))) := DGet.k (k := .inl ((t4 + 2 : Nat) : Int)) hf
    rw [idD_none t (t4 + 2) (.inr (by omega))] at g
    refine ⟨_, rfl, _, rfl, fd, _, rfl, g, _, rfl, iteT ?_⟩
    obtain ⟨dx, ob⟩ := hO.ob
    have ht4 : t4 < R.length := (List.getElem?_eq_some_iff.mp hq).1
    refine ⟨_, rfl, p, dx, _, rfl, ob, rf_no l d (by decide +kernel) (by decide +kernel), _, rfl, p, l, d, bs, R, t4 + 2, rfl, hO, by omega, fun a H1 s1 h1 => ?_⟩
    rw [qq_row hq] at h1
    refine ⟨a, rfl, ⟨_, SqT.of h1⟩, ?_⟩
    have key : ∀ (i : Nat) (x : V), (rowV r)[i]? = some x → ∃ cc : Nat, x = .int (cc : Int) ∧ cc < R.length + 2 ∧ Ord R n cc ([t, t1, t2, t3, t4].getD i 0) ([t, t1, t2, t3, t4].getD (i + 1) 0) := by
      obtain ⟨ga, gb, gc, gd⟩ := G.lt _ _ hq
      intro i x hx
      match i, hx with
      | 0, hx => exact ⟨r.a, by simpa [rowV] using hx.symm, by omega, ha⟩
      | 1, hx => exact ⟨r.b, by simpa [rowV] using hx.symm, by omega, hb⟩
      | 2, hx => exact ⟨r.c, by simpa [rowV] using hx.symm, by omega, hc⟩
      | 3, hx => exact ⟨r.d, by simpa [rowV] using hx.symm, by omega, hd⟩
      | k + 4, hx => simp [rowV] at hx
    refine for_it (walk_tup (xs := rowV r)) (fun i σ H' => But [fd] H1 H' ∧ H' fd = some (.dK (idD ([t, t1, t2, t3, t4].getD i 0))) ∧ ∃ v3, σ = [some (.ref p), some (.int ((t4 + 2 : Nat) : Int)), some (.ref fd), v3])
      ⟨.of (Same.refl _), s1 _ _ hf, none, rfl⟩ (fun _ _ H' _ ⟨B, _⟩ => SqT.of (B _ _ (fun z => by rw [List.mem_singleton.mp z, s1 _ _ hf] at h1; cases h1) h1)) ?_ ?_
    · rintro i x σ H2 H3 hi ⟨B, h2, v3, rfl⟩ ⟨rfl, hx⟩
      obtain ⟨cc, rfl, hcc, ho'⟩ := key i x hx
      have O2 := (hO.same s1).but (s1 _ _ hf) B
      obtain ⟨dx2, ob2⟩ := O2.ob
      refine ⟨_, rfl, p, dx2, _, rfl, ob2, rf_no l d (by decide +kernel) (by decide +kernel), _, rfl, _, rfl, p, l, d, fd, bs, R, cc, _, _, rfl, O2, hlen, h2, ho', hcc, G, fun H4 B4 h4 => ?_⟩
      exact ⟨B.trans B4, h4, _, rfl⟩
    · rintro σ H2 ⟨B, h2, v3, rfl⟩
      have h2' : H2 fd = some (.dK (idD t4)) := h2
      refine ⟨_, rfl, fd, _, rfl, h2', _, _, rfl, rfl, _, rfl, _, rfl, fd, upd H2 fd (.dK (idD (t4 + 1))), rfl, .inl ⟨idD t4, .inl ((t4 + 2 : Nat) : Int), h2', rfl, by rw [idD_len]; exact sz_lt (by omega), ?_⟩, ?_⟩
      · rw [← idD_put, idD_len]
        rfl
      · exact q _ (((But.of s1).trans B).put (List.mem_singleton.mpr rfl) _) upd_same
theorem c_order (T : Txt K mg C) : ∀ n, Met P w K mg base (n + 2) C "order" (spOrder C n)
  | 0 => c_order0 T
  | n + 1 => c_orderS T (c_order T n)
/-- the rows of a list that grows -/
theorem RowsAt.fresh {H : Hp} {bs : List Addr} {R : List Qd} (h : RowsAt H bs R) {e : Addr} (he : ∀ ys, H e ≠ some (.tup ys)) (o : HO) : RowsAt (upd H e o) bs R := h.put he
def spShape (C : Addr) : Sp := fun vs H Q _ => ∃ (p l d : Addr) (bs : List Addr) (R : List Qd) (n tp : Nat), vs = [.ref p, .int n, .int tp] ∧ ObAt C H p l d bs R ∧ R.length ≤ 500 ∧ Ord R 12 tp 0 R.length ∧
  tp < R.length + 2 ∧ Gd R ∧ ∀ a H', Same H H' → TellAt H' a n tp R → Q (.ref a) H'
/-! Rows.shape: slots 0 self, 1 n, 2 top, 3 new, 4 rows, 5 number, 6 quarter; cells new -/
abbrev s_Rows_shape : Stmt := inClass (top 19) 5
theorem sc_Rows_shape : FnScope ["self", "n", "top", "new", "rows", "number", "quarter"] ["self", "n", "top"] (defScope s_Rows_shape) := ⟨rfl, rfl, rfl, by decide +kernel, rfl, by decide +kernel, by decide +kernel⟩
theorem c_shape (T : Txt K mg C) : Met P w K mg base 15 C "shape" (spShape C) := by
  have G_quarters := c_quarters (P := P) (w := w) (base := base) T
  have G_order := c_order (P := P) (w := w) (base := base) T 12
  refine Mf.met T.cl T.d_shape sc_Rows_shape (fun vs H Q E h => ?_) (fun f cdv A outer s H vs Q E hr h => ?_)
  · obtain ⟨p, l, d, bs, R, n, tp, rfl, _⟩ := h
    rfl
  obtain ⟨p, l, d, bs, R, n, tp, rfl, hO, hlen, ho, htp, G, q⟩ := h
  refine ⟨_, (pss_cons (ps_set (i := 3) sc_Rows_shape.nd rfl (Or.inr rfl) pe_dnewK)
    (pss_cons (ps_expr (pe_mt G_order hr (by decide) (pv 0) (pa_cons (pv 2) (pa_cons (pv 3) pa_nil))))
    (pss_cons (ps_dput (hu_of hr) (pv 3) pe_int pe_int rfl)
    (pss_cons (ps_dput (hu_of hr) (pv 3) pe_int pe_int rfl)
    (pss_cons (ps_set (i := 4) sc_Rows_shape.nd rfl (Or.inl rfl) (pe_lst pa_nil))
    (pss_cons (ps_lock (ps_for PassesOwn.never rfl (pi_keys (pv 3)) (pg_name (i := 5) sc_Rows_shape.nd rfl (Or.inl rfl))
      (pss_one (ps_if (pt_cmpR op_gt (pv 5) pe_int (nomark _))
        (pss_one (ps_expr (pe_bm PySem.F.plainAttrs_list PySem.F.slot_list_append PySem.F.type_list_append mt_append (pv 4) (pa_cons (pe_callTy call_tuple_of (by rfl) T.b_tuple (by decide +kernel) (pa_cons (pe_lc (own := [("quarter", 6)]) (g := gName 6) rfl sc_Rows_shape.nd (pi_tup (pe_mt G_quarters hr (by decide) (pv 0) (pa_cons (pv 5) pa_nil))) (blkOk_by (N := ["self", "n", "top", "new", "rows", "number", "quarter"]) (sc := defScope s_Rows_shape) (by decide +kernel)) (fun _ _ _ _ _ => (pg_name (i := 6) sc_Rows_shape.nd rfl (Or.inl rfl))) (fun _ _ _ _ _ => pts_nil) (fun _ _ _ _ _ => (pe_dget (hu_of hr) (pv 3) (pv 6) (fun _ _ => rfl)))) pa_nil)) pa_nil))))
        pss_nil))))
    (pss_one (ps_ret (pe_tup (pa_cons (pv 1) (pa_cons (pe_dget (hu_of hr) (pv 3) (pv 2) (fun _ _ => rfl)) (pa_cons (pe_callTy call_tuple_of (by rfl) T.b_tuple (by decide +kernel) (pa_cons (pv 4) pa_nil)) pa_nil)))))))))))), ?_⟩
  intro fd hfd
  have s1 : Same H (upd H fd (.dK [])) := same_new hfd _
  have O1 := hO.same s1
  obtain ⟨dx1, ob1⟩ := O1.ob
  refine ⟨_, rfl, p, dx1, _, rfl, ob1, rf_no l d (by decide +kernel) (by decide +kernel), _, rfl, _, rfl, p, l, d, fd, bs, R, tp, 0, R.length, rfl, O1, hlen, upd_same, ho, htp, G, fun H2 B2 h2 => ?_⟩
  have O2 := O1.but upd_same B2
  refine ⟨_, rfl, fd, upd H2 fd (.dK (putK (idD R.length) (.inl 0) (.int 0))), rfl, .inl ⟨idD R.length, .inl 0, h2, rfl, by rw [idD_len]; exact sz_lt (by omega), rfl⟩, ?_⟩
  refine ⟨_, rfl, fd, upd (upd H2 fd (.dK (putK (idD R.length) (.inl 0) (.int 0)))) fd (.dK (idE R.length)), rfl, .inl ⟨putK (idD R.length) (.inl 0) (.int 0), .inl 1, upd_same, rfl, ?_, ?_⟩, ?_⟩
  · rw [putK_new _ (show valV (idD R.length) (.inl 0) = none from idD_none _ 0 (by omega)), List.length_append, idD_len]
    exact sz_lt (by simp; omega)
  · rw [idE_put]
  have B3 : But [fd] H2 (upd (upd H2 fd (.dK (putK (idD R.length) (.inl 0) (.int 0)))) fd (.dK (idE R.length))) := ((But.of (Same.refl _)).put (List.mem_singleton.mpr rfl) _).put (List.mem_singleton.mpr rfl) _
  have O3 := O2.but h2 B3
  have h3 : (upd (upd H2 fd (.dK (putK (idD R.length) (.inl 0) (.int 0)))) fd (.dK (idE R.length))) fd = some (.dK (idE R.length)) := upd_same
  have B03 : But [fd] H (upd (upd H2 fd (.dK (putK (idD R.length) (.inl 0) (.int 0)))) fd (.dK (idE R.length))) := ((But.of s1).trans B2).trans B3
  generalize (upd (upd H2 fd (.dK (putK (idD R.length) (.inl 0) (.int 0)))) fd (.dK (idE R.length))) = H3 at B3 O3 h3 B03 ⊢
  refine ⟨Nat.zero_le _, fun e he => ?_⟩
  have nfe : fd ≠ e := ne_of_none h3 he
  have O4 := O3.same (same_new he (.lst []))
  have h4 : (upd H3 e (.lst [])) fd = some (.dK (idE R.length)) := by rw [upd_ne nfe]; exact h3
  have he4 : (upd H3 e (.lst [])) e = some (.lst []) := upd_same
  have hHe : H e = none := by
    cases z : H e with
    | none => rfl
    | some o =>
      have := B03 _ _ (by simp [nfe.symm]) z
      rw [he] at this
      cases this
  have B4 : But [fd, e] H (upd H3 e (.lst [])) := (B03.mono (by simp)).fresh hHe _
  generalize upd H3 e (.lst []) = H4 at O4 h4 he4 B4 ⊢
  refine ⟨fd, _, h4, trivial, fun od => ⟨_, rfl, fd, od, rfl, .inl ⟨idE R.length, upd_same, ?_⟩⟩⟩
  have O5 : ObAt C (upd H4 fd (.frz od (.dK (idE R.length)))) p l d bs R := O4.putK h4 _
  have B5 : But [fd, e] H (upd H4 fd (.frz od (.dK (idE R.length)))) := B4.put (by simp) _
  have h5 : (upd H4 fd (.frz od (.dK (idE R.length)))) fd = some (.frz od (.dK (idE R.length))) := upd_same
  have he5 : (upd H4 fd (.frz od (.dK (idE R.length)))) e = some (.lst []) := by rw [upd_ne nfe.symm]; exact he4
  generalize upd H4 fd (.frz od (.dK (idE R.length))) = H5 at O5 B5 h5 he5 ⊢
  have nel : e ≠ l := fun z => by rw [z] at hHe; rw [hO.ls] at hHe; cases hHe
  refine for_it walk_keys (fun i σ H' => But [fd, e] H H' ∧ H' fd = some (.frz od (.dK (idE R.length))) ∧ ObAt C H' p l d bs R ∧ (∃ ts, H' e = some (.lst (ts.map V.ref)) ∧ RowsAt H' ts (R.take i)) ∧ ∃ v5 v6, σ = [some (.ref p), some (.int n), some (.int tp), some (.ref fd), some (.ref e), v5, v6])
    ⟨B5, h5, O5, ⟨[], he5, by rw [List.take_zero]; trivial⟩, none, none, rfl⟩ (fun _ _ _ _ ⟨_, h, _⟩ => h) ?_ ?_
  · rintro i x σ H6 H7 hi ⟨B6, h6, O6, ⟨ts, he6, ht6⟩, v5, v6, rfl⟩ ⟨rfl, k, v, hk, rfl⟩
    rcases idE_at hk with ⟨hi', rfl⟩ | ⟨hi', hk'⟩
    · refine ⟨_, rfl, _, _, rfl, rfl, _, rfl, ite2 (fun _ => ?_) (fun c => absurd (decide_eq_true (by show ((i + 2 : Nat) : Int) > 1; omega)) c)⟩
      have hri : R[i]? = some R[i] := List.getElem?_eq_getElem hi'
      obtain ⟨ga, gb, gc, gd⟩ := G.lt i _ hri
      obtain ⟨dx6, ob6⟩ := O6.ob
      refine ⟨_, rfl, .inl ⟨rfl, _, SqL.of he6⟩, ?_⟩
      refine ⟨_, rfl, p, dx6, _, rfl, ob6, rf_no l d (by decide +kernel) (by decide +kernel), _, rfl, p, l, d, bs, R, i + 2, rfl, O6, by omega, fun t H8 s8 h8 => ?_⟩
      rw [qq_row hri] at h8
      refine ⟨t, rfl, ⟨_, SqT.of h8⟩, fun D hD => ?_⟩
      refine lc_it (walk_tup (xs := rowV R[i])) (fun j H' => Same H8 H' ∧ H' D = some (.lst ((rowV R[i]).take j))) ⟨same_new hD _, upd_same⟩ (fun _ _ _ ⟨s2, _⟩ => SqT.of (s2 _ _ h8)) ?_ ?_
      · rintro j y H9 H10 hj ⟨s9, h9⟩ ⟨rfl, hy⟩
        have hy' := hy
        obtain ⟨m, rfl, hm, h4', em⟩ := rowV_get hy
        refine ⟨rfl, ?_⟩
        have g : DGet H10 fd (.int (m : Int)) (valV (idE R.length) (.inl (m : Int))) := .inl ⟨idE R.length, .inl (m : Int), .inr ⟨od, s9 _ _ (s8 _ _ h6)⟩, rfl, rfl⟩
        rw [idE_some (by omega)] at g
        refine ⟨_, rfl, _, rfl, fd, _, rfl, g, _, h9, ?_, ?_⟩
        · rw [List.length_take]
          exact sz_lt (by omega)
        · exact ⟨same_mut s9 hD _, by rw [upd_same, take_snoc hy']⟩
      · rintro H9 ⟨s9, h9⟩
        have h9' : H9 D = some (.lst (rowV R[i])) := h9
        refine ⟨D, _, rfl, .inl ⟨SqL.of h9', fun t2 ht2 => ?_⟩⟩
        have s10 : Same H7 (upd H9 t2 (.tup (rowV R[i]))) := same_then (s8.trans s9) ht2 _
        have k10 : (upd H9 t2 (.tup (rowV R[i]))) t2 = some (.tup (rowV R[i])) := upd_same
        refine ⟨e, _, _, rfl, rfl, s10 _ _ he6, ?_, ?_⟩
        · rw [List.length_map, ht6.len, List.length_take]
          exact sz_lt (by omega)
        · have net : ∀ ys, (upd H9 t2 (.tup (rowV R[i]))) e ≠ some (.tup ys) := fun ys z => by rw [s10 _ _ he6] at z; cases z
          refine ⟨(B6.trans (.of s10)).put (by simp) _, ?_, (O6.same s10).put (s10 _ _ he6) nel _, ⟨ts ++ [t2], ?_, ?_⟩, _, _, rfl⟩
          · rw [upd_ne nfe]
            exact s10 _ _ h6
          · rw [upd_same, List.map_append]
            rfl
          · rw [take_snoc hri]
            exact ((ht6.same s10).snoc k10).fresh net _
    · have e1 : R.take i = R.take (i + 1) := by rw [List.take_of_length_le hi', List.take_of_length_le (by omega)]
      rw [e1] at ht6
      rcases hk' with rfl | rfl
      · exact ⟨_, rfl, _, _, rfl, rfl, _, rfl, ite2 (fun c => absurd (of_decide_eq_true c) (by show ¬ (0 : Int) > 1; omega)) (fun c => ⟨B6, h6, O6, ⟨ts, he6, ht6⟩, _, _, rfl⟩)⟩
      · exact ⟨_, rfl, _, _, rfl, rfl, _, rfl, ite2 (fun c => absurd (of_decide_eq_true c) (by show ¬ (1 : Int) > 1; omega)) (fun c => ⟨B6, h6, O6, ⟨ts, he6, ht6⟩, _, _, rfl⟩)⟩
  · rintro σ H6 ⟨B6, h6, O6, ⟨ts, he6, ht6⟩, v5, v6, rfl⟩
    have eR : R.take (idE R.length).length = R := List.take_of_length_le (by simp [idE, idD_len])
    rw [eR] at ht6
    refine ⟨h6, ?_⟩
    have net : ∀ ys, H6 fd ≠ some (.tup ys) := fun ys z => by rw [h6] at z; cases z
    have ht7 : RowsAt (upd H6 fd (.dK (idE R.length))) ts R := ht6.fresh net _
    have h7 : (upd H6 fd (.dK (idE R.length))) fd = some (.dK (idE R.length)) := upd_same
    have he7 : (upd H6 fd (.dK (idE R.length))) e = some (.lst (ts.map V.ref)) := by rw [upd_ne nfe.symm]; exact he6
    have B7 : But [fd, e] H (upd H6 fd (.dK (idE R.length))) := B6.put (by simp) _
    generalize upd H6 fd (.dK (idE R.length)) = H7 at ht7 h7 he7 B7 ⊢
    have s7 : Same H H7 := fun b o z => B7 b o (fun y => by
      rcases List.mem_cons.mp y with y | y
      · rw [y, hfd] at z; cases z
      · rw [List.mem_singleton.mp y, hHe] at z; cases z) z
    have g : DGet H7 fd (.int (tp : Int)) (valV (idE R.length) (.inl (tp : Int))) := DGet.k (k := .inl (tp : Int)) h7
    rw [idE_some htp] at g
    refine ⟨_, rfl, _, rfl, _, rfl, fd, _, rfl, g, _, rfl, e, _, rfl, .inl ⟨SqL.of he7, fun t1 ht1 => ?_⟩⟩
    have s8 := same_new ht1 (.tup (ts.map V.ref))
    refine ⟨by show 3 ≤ sizeLine; decide, fun t2 ht2 => ?_⟩
    have s9 := same_then s8 ht2 (.tup [.int n, .int tp, .ref t1])
    exact q t2 _ (s7.trans s9) ⟨t1, ts, upd_same, (same_new ht2 _) _ _ upd_same, ht7.same s9⟩
def spOneOf : Sp := fun vs H Q _ => ∃ (a : Addr) (n tp : Nat) (R : List Qd), vs = [.ref a] ∧ TellAt H a n tp R ∧ R.length ≤ 500 ∧ Ord R 12 tp 0 R.length ∧
  tp < R.length + 2 ∧ Gd R ∧ ∀ b H', Same H H' → TellAt H' b n tp R → Q (.ref b) H'
/-! one_of: slots 0 telling, 1 rows, 2 top -/
abbrev s_one_of : Stmt := top 20
theorem sc_one_of : FnScope ["telling", "rows", "top"] ["telling"] (defScope s_one_of) := ⟨rfl, rfl, rfl, by decide +kernel, rfl, by decide +kernel, by decide +kernel⟩
theorem c_one_of (T : Txt K mg C) : Cal P w K mg base 16 "one_of" spOneOf := by
  have G_Rows := c_Rows (P := P) (w := w) (base := base) T
  have G_take := c_take (P := P) (w := w) (base := base) T
  have G_shape := c_shape (P := P) (w := w) (base := base) T
  refine T.d_one_of.cal sc_one_of (fun vs H Q E h => ?_) (fun f cdv A outer s H vs Q E hr h => ?_)
  · obtain ⟨a, n, tp, R, rfl, _⟩ := h
    rfl
  obtain ⟨a, n, tp, R, rfl, hT, hlen, ho, htp, G, q⟩ := h
  refine ⟨_, (pss_cons (ps_set (i := 1) sc_one_of.nd rfl (Or.inl rfl) (pe_mk0 G_Rows hr (by decide) (by rfl)))
    (pss_cons (ps_set (i := 2) sc_one_of.nd rfl (Or.inl rfl) (pe_mt G_take hr (by decide) (pv 1) (pa_cons (pv 0) pa_nil)))
    (pss_one (ps_ret (pe_mt G_shape hr (by decide) (pv 1) (pa_cons (pe_ix ix_tup (pv 0) pe_int (fun _ _ => rfl)) (pa_cons (pv 2) pa_nil))))))), ?_⟩
  refine fun x dx hx hdx ndx => ⟨x, dx, rfl, upd_same, fun H1 l d hl hd B1 h1 hl1 hd1 nld => ⟨rfl, ?_⟩⟩
  have s0 : Same H (upd (upd H dx (.own x)) x (.ins C dx [])) := same_then (same_new hdx _) (by rw [upd_ne ndx.symm]; exact hx) _
  have s1 : Same H H1 := fun b o z => B1 b o (fun y => by rw [List.mem_singleton.mp y, hx] at z; cases z) (s0 b o z)
  have O1 : ObAt C H1 x l d [] [] := ⟨⟨dx, h1⟩, hl1, hd1, trivial⟩
  have hHl : H l = none := by
    cases z : H l with
    | none => rfl
    | some o => have := s0 _ _ z; rw [hl] at this; cases this
  have hHd : H d = none := by
    cases z : H d with
    | none => rfl
    | some o => have := s0 _ _ z; rw [hd] at this; cases this
  refine ⟨_, rfl, x, dx, _, rfl, h1, rf_no l d (by decide +kernel) (by decide +kernel), _, rfl, x, a, l, d, n, tp, R, rfl, hT.same s1, O1, G, hlen, htp, fun bs H2 B2 O2 => ?_⟩
  have s2 : Same H H2 := fun b o z => B2 b o (fun y => by
      rcases List.mem_cons.mp y with y | y
      · rw [y, hHl] at z; cases z
      · rw [List.mem_singleton.mp y, hHd] at z; cases z) (s1 b o z)
  obtain ⟨dx2, ob2⟩ := O2.ob
  obtain ⟨ra, bs0, ha, hra, hR⟩ := hT
  refine ⟨_, rfl, x, dx2, _, rfl, ob2, rf_no l d (by decide +kernel) (by decide +kernel), ?_⟩
  refine ⟨_, rfl, a, _, 0, _, rfl, rfl, SqT.of (s2 _ _ ha), rfl, _, rfl, x, l, d, bs, R, n, tp, rfl, O2, hlen, ho, htp, G, fun b H3 s3 h3 => q b H3 (s2.trans s3) h3⟩
end
end QW
set_option Elab.async false
set_option linter.all false
set_option maxRecDepth 100000
set_option maxHeartbeats 4000000
/-! The walk, 6: is_telling .. want_coarse. -/
namespace QW
open PySem PySem.Spec PyProof.Rows L2 QX QF
def tellD (n tp : Nat) (R : List Qd) : PyData := .tuple [.int n, .int tp, .tuple (R.map rowD)]
theorem tellD_shaped (n tp : Nat) (R : List Qd) : SeqAt.shaped (tellD n tp R) = true := by
  have h1 : PyData.canLayAll0 (R.map rowD) = true := by
    induction R with
    | nil => rfl
    | cons q R ih =>
      show (PyData.canLay0 (rowD q) && PyData.canLayAll0 (R.map rowD)) = true
      rw [ih]
      simp [rowD, PyData.canLay0, PyData.canLayAll0]
  have h2 : PyData.depthAll (R.map rowD) ≤ 1 := by
    induction R with
    | nil => exact Nat.zero_le _
    | cons q R ih =>
      show max (PyData.depth (rowD q)) (PyData.depthAll (R.map rowD)) ≤ 1
      have := ih (by
        have z : (PyData.canLay0 (rowD q) && PyData.canLayAll0 (R.map rowD)) = true := h1
        exact (Bool.and_eq_true_iff.mp z).2)
      have e : PyData.depth (rowD q) = 1 := by simp [rowD, PyData.depth, PyData.depthAll]
      omega
  unfold SeqAt.shaped tellD
  simp only [PyData.canLay0, PyData.canLayAll0, PyData.depth, PyData.depthAll, h1]
  simp
  omega
theorem tellD_eqv (n tp : Nat) (R : List Qd) : PyData.eqv (tellD n tp R) (tellD n tp R) = true := SeqAt.eqv_refl _ (SeqAt.canLay_of_shaped (tellD_shaped n tp R))
theorem dp_rows {K : PySem.W.Frag} {H : Hp} : ∀ {bs : List Addr} {R : List Qd}, RowsAt H bs R → DpAll K H (bs.map V.ref) (R.map rowD)
  | [], [], _ => .nil
  | _ :: _, _ :: _, ⟨h1, h2⟩ => .cons (dp_row h1) (dp_rows h2)
  | [], _ :: _, h => h.elim
  | _ :: _, [], h => h.elim
theorem dp_tell {K : PySem.W.Frag} {H : Hp} {a : Addr} {n tp : Nat} {R : List Qd} (h : TellAt H a n tp R) : Dp K H (.ref a) (tellD n tp R) := by
  obtain ⟨ra, bs, h1, h2, h3⟩ := h
  exact .tup (SqT.of h1) (.cons (.int _) (.cons (.int _) (.cons (.tup (SqT.of h2) (dp_rows h3)) .nil)))
section
variable {P : Program} {w : World} {K : PySem.W.Frag} {mg : Str → Option Value} {base : Heap} {C : Addr}
def spIsTelling : Sp := fun vs H Q _ => ∃ (a : Addr) (n tp : Nat) (R : List Qd), vs = [.ref a] ∧ TellAt H a n tp R ∧ Shp n tp R ∧ ∀ H', Same H H' → Q (.bl true) H'
/-! is_telling: slots 0 thing, 1 n, 2 top, 3 rows, 4 place, 5 row -/
abbrev s_is_telling : Stmt := top 25
theorem sc_is_telling : FnScope ["thing", "n", "top", "rows", "place", "row"] ["thing"] (defScope s_is_telling) := ⟨rfl, rfl, rfl, by decide +kernel, rfl, by decide +kernel, by decide +kernel⟩
theorem c_is_telling (T : Txt K mg C) : Cal P w K mg base 4 "is_telling" spIsTelling := by
  have G_is_size := c_is_size (P := P) (w := w) (base := base) T
  have G_is_row := c_is_row (P := P) (w := w) (base := base) T
  have G_is_number := c_is_number (P := P) (w := w) (base := base) T
  have G_depths_of := c_depths_of (P := P) (w := w) (base := base) T
  refine T.d_is_telling.cal sc_is_telling (fun vs H Q E h => ?_) (fun f cdv A outer s H vs Q E hr h => ?_)
  · obtain ⟨a, n, tp, R, rfl, _⟩ := h
    rfl
  obtain ⟨a, n, tp, R, rfl, hT, hS, q⟩ := h
  obtain ⟨ra, bs, ha, hra, hR⟩ := hT
  have few := hS.few
  have n12 := hS.n12
  refine ⟨_, (pss_cons (ps_if (PW.pt (pw_or (pt_not (pt_val (pe_callB call_isi (by rfl) T.b_isinstance (by decide +kernel) (pa_cons (pv 0) (pa_cons (pe_bltn (v := .ty "tuple") (by rfl) T.b_tuple (by decide +kernel) rfl) pa_nil))))) (pw_or (pt_cmpR op_ne (pe_callB call_len_seq (by rfl) T.b_len (by decide +kernel) (pa_cons (pv 0) pa_nil)) pe_int (nomark _)) (pw_or (pt_not (pt_val (pe_c G_is_size hr (by decide) (by rfl) (pa_cons (pe_ix ix_tup (pv 0) pe_int (fun _ _ => rfl)) pa_nil)))) (pw_or1 (pt_not (pt_val (pe_callB call_isi (by rfl) T.b_isinstance (by decide +kernel) (pa_cons (pe_ix ix_tup (pv 0) pe_int (fun _ _ => rfl)) (pa_cons (pe_bltn (v := .ty "tuple") (by rfl) T.b_tuple (by decide +kernel) rfl) pa_nil))))))))))
      (pss_one (ps_ret pe_bl))
      pss_nil)
    (pss_cons (ps_asg (pv 0) (pg_tup rfl (pgs_cons (pg_name (i := 1) sc_is_telling.nd rfl (Or.inl rfl)) (pgs_cons (pg_name (i := 2) sc_is_telling.nd rfl (Or.inl rfl)) (pgs_cons (pg_name (i := 3) sc_is_telling.nd rfl (Or.inl rfl)) pgs_nil)))))
    (pss_cons (ps_if (PW.pt (pw_or (pt_not (pt_val (pe_callB (cr_all rfl) (by rfl) T.b_all (by decide +kernel) (pa_cons (pe_lc (own := [("place", 4), ("row", 5)]) (g := gTup K 2 (gCons (gName 4) (gCons (gName 5) gNil))) rfl sc_is_telling.nd (pi_enumU (by rfl) T.b_enumerate (pa_cons (pv 3) pa_nil)) (blkOk_by (N := ["thing", "n", "top", "rows", "place", "row"]) (sc := defScope s_is_telling) (by decide +kernel)) (fun _ _ _ _ _ => (pg_tup rfl (pgs_cons (pg_name (i := 4) sc_is_telling.nd rfl (Or.inl rfl)) (pgs_cons (pg_name (i := 5) sc_is_telling.nd rfl (Or.inl rfl)) pgs_nil)))) (fun _ _ _ _ _ => pts_nil) (fun _ _ _ _ _ => (pe_c G_is_row hr (by decide) (by rfl) (pa_cons (pv 5) (pa_cons (pv 4) pa_nil))))) pa_nil)))) (pw_or1 (pt_not (pt_val (pe_c G_is_number hr (by decide) (by rfl) (pa_cons (pv 2) (pa_cons (pe_op op_add (pe_callB call_len_seq (by rfl) T.b_len (by decide +kernel) (pa_cons (pv 3) pa_nil)) pe_int) pa_nil))))))))
      (pss_one (ps_ret pe_bl))
      pss_nil)
    (pss_one (ps_ret (pe_cmpR op_le (pe_ix ix_list (pe_c G_depths_of hr (by decide) (by rfl) (pa_cons (pv 3) pa_nil)) (pv 2) (fun _ _ => rfl)) (pv 1) (nomark _))))))), ?_⟩
  refine ⟨_, rfl, _, _, _, _, true, rfl, .ty _, .base (.tup ha), kit_ty (by decide +kernel), true, rfl, iteF ?_⟩
  refine ⟨_, rfl, a, _, rfl, .inr (SqT.of ha), rfl, _, rfl, iteF ?_⟩
  refine ⟨_, rfl, a, _, 0, _, rfl, rfl, SqT.of ha, rfl, n, rfl, by omega, by omega, true, rfl, iteF ?_⟩
  refine ⟨_, rfl, a, _, 2, _, rfl, rfl, SqT.of ha, rfl, _, _, _, _, true, rfl, .ty _, .base (.tup hra), kit_ty (by decide +kernel), true, rfl, iteF ?_⟩
  refine ⟨_, rfl, a, _, rfl, SqT.of ha, rfl, _, _, rfl, _, _, rfl, _, _, rfl, rfl, ?_⟩
  have hbl := hR.len
  refine ⟨_, rfl, ra, _, rfl, SqT.of hra, fun D hD => lc_it walk_enumU (fun i H' => Same H H' ∧ H' D = some (.lst ((List.replicate i true).map V.bl))) ⟨same_new hD _, upd_same⟩ (fun _ _ _ ⟨s1, _⟩ => SqT.of (s1 _ _ hra)) ?_ ?_⟩
  · rintro i x H1 H2 hi ⟨s1, h1⟩ ⟨t, x1, x2, rfl, ht, rfl, e1, e2⟩
    rw [List.length_map] at hi
    cases e1
    obtain ⟨b, hb, rfl⟩ : ∃ b, bs[i]? = some b ∧ x2 = .ref b := by
      replace e2 : (bs.map V.ref)[i]? = some x2 := e2
      rw [List.getElem?_map] at e2
      obtain ⟨b, e1, e3⟩ := Option.map_eq_some_iff.mp e2
      exact ⟨b, e1, e3.symm⟩
    obtain ⟨r, hr', hrow⟩ := hR.at hb
    obtain ⟨ga, gb, gc, gd⟩ := hS.gd.lt i r hr'
    have s2 := same_then s1 ht (.tup [.int (i : Nat), .ref b])
    refine ⟨t, _, rfl, SqT.of upd_same, rfl, _, _, rfl, _, _, rfl, rfl, rfl, ?_⟩
    refine ⟨_, rfl, _, rfl, b, r, i, rfl, s2 _ _ hrow, ga, gb, gc, gd, fun H3 s3 => ?_⟩
    have hDt : D ≠ t := ne_of_none h1 ht
    refine ⟨_, s3 _ _ (by rw [upd_ne hDt]; exact h1), ?_, ?_⟩
    · rw [List.length_map, List.length_replicate]
      exact sz_lt (by omega)
    · refine ⟨same_mut (s2.trans s3) hD _, ?_⟩
      rw [upd_same, List.replicate_succ']
      simp
  · rintro H1 ⟨s1, h1⟩
    refine ⟨D, _, rfl, SqL.of h1, ?_⟩
    have e2 : (List.replicate (bs.map V.ref).length true).all id = true := by simp
    rw [e2]
    refine ⟨true, rfl, iteF ?_⟩
    refine ⟨_, rfl, _, rfl, ra, _, rfl, .inr (SqT.of (s1 _ _ hra)), _, _, rfl, rfl, tp, _, rfl, by omega, ?_, true, rfl, iteF ?_⟩
    · rw [List.length_map, hbl]
      have := hS.lt
      omega
    · refine ⟨_, rfl, ra, bs, R, rfl, s1 _ _ hra, hR.same s1, hS.gd, by omega, fun p H2 s2 h2 => ?_⟩
      have hl : tp < (deps R).length := by
        unfold deps
        rw [tab_len]
        have := hS.lt
        simp
        omega
      refine ⟨_, rfl, p, _, _, _, rfl, rfl, SqL.of h2, natsV_at hl, _, rfl, _, _, rfl, rfl, ?_⟩
      exact bl_t (by have := hS.dep; omega) (q _ (s1.trans s2))
def spIsShape : Sp := spIsTelling
/-! is_shape: slots 0 thing -/
abbrev s_is_shape : Stmt := top 26
theorem sc_is_shape : FnScope ["thing"] ["thing"] (defScope s_is_shape) := ⟨rfl, rfl, rfl, by decide +kernel, rfl, by decide +kernel, by decide +kernel⟩
theorem c_is_shape (T : Txt K mg C) : Cal P w K mg base 17 "is_shape" spIsShape := by
  have G_is_telling := c_is_telling (P := P) (w := w) (base := base) T
  have G_one_of := c_one_of (P := P) (w := w) (base := base) T
  refine T.d_is_shape.cal sc_is_shape (fun vs H Q E h => ?_) (fun f cdv A outer s H vs Q E hr h => ?_)
  · obtain ⟨a, n, tp, R, rfl, _⟩ := h
    rfl
  obtain ⟨a, n, tp, R, rfl, hT, hS, q⟩ := h
  have few := hS.few
  refine ⟨_, (pss_one (ps_ret (pe_and (pe_c G_is_telling hr (by decide) (by rfl) (pa_cons (pv 0) pa_nil)) (pe_one (pe_cmpR (op_eqD hr.units) (pe_c G_one_of hr (by decide) (by rfl) (pa_cons (pv 0) pa_nil)) (pv 0) (nomark _)))))), ?_⟩
  refine ⟨_, rfl, a, n, tp, R, rfl, hT, hS, fun H1 s1 => ⟨true, rfl, iteT ?_⟩⟩
  refine ⟨_, rfl, a, n, tp, R, rfl, hT.same s1, by omega, ordMono hS.ord hS.n12, by have := hS.lt; omega, hS.gd, fun b H2 s2 h2 => ?_⟩
  refine ⟨_, rfl, _, _, dp_tell h2, dp_tell (hT.same (s1.trans s2)), tellD_shaped _ _ _, tellD_shaped _ _ _, ?_⟩
  rw [tellD_eqv]
  exact q _ (s1.trans s2)
def spWantShape : Sp := fun vs H Q _ => ∃ (a : Addr) (n tp : Nat) (R : List Qd), vs = [.ref a] ∧ TellAt H a n tp R ∧ Shp n tp R ∧ ∀ H', Same H H' → Q .non H'
/-! want_shape: slots 0 thing -/
abbrev s_want_shape : Stmt := top 27
theorem sc_want_shape : FnScope ["thing"] ["thing"] (defScope s_want_shape) := ⟨rfl, rfl, rfl, by decide +kernel, rfl, by decide +kernel, by decide +kernel⟩
theorem c_want_shape (T : Txt K mg C) : Cal P w K mg base 18 "want_shape" spWantShape := by
  have G_is_shape := c_is_shape (P := P) (w := w) (base := base) T
  refine T.d_want_shape.cal sc_want_shape (fun vs H Q E h => ?_) (fun f cdv A outer s H vs Q E hr h => ?_)
  · obtain ⟨a, n, tp, R, rfl, _⟩ := h
    rfl
  obtain ⟨a, n, tp, R, rfl, hT, hS, q⟩ := h
  refine ⟨_, (pss_one (ps_if (pt_not (pt_val (pe_c G_is_shape hr (by decide) (by rfl) (pa_cons (pv 0) pa_nil))))
      (pss_one ps_never)
      pss_nil)), ?_⟩
  exact ⟨_, rfl, a, n, tp, R, rfl, hT, hS, fun H1 s1 => ⟨true, rfl, iteF (q _ s1)⟩⟩
def spManyIn : Sp := fun vs H Q _ => ∃ (a : Addr) (n tp : Nat) (R : List Qd), vs = [.ref a] ∧ TellAt H a n tp R ∧ Shp n tp R ∧ ∀ H', Same H H' → Q (.int (QF.nth (lvs R) tp : Nat)) H'
/-! many_in: slots 0 shape, 1 n, 2 top, 3 rows, 4 found, 5 row, 6 number; cells found -/
abbrev s_many_in : Stmt := top 30
theorem sc_many_in : FnScope ["shape", "n", "top", "rows", "found", "row", "number"] ["shape"] (defScope s_many_in) := ⟨rfl, rfl, rfl, by decide +kernel, rfl, by decide +kernel, by decide +kernel⟩
theorem c_many_in (T : Txt K mg C) : Cal P w K mg base 1 "many_in" spManyIn := by
  refine T.d_many_in.cal sc_many_in (fun vs H Q E h => ?_) (fun f cdv A outer s H vs Q E hr h => ?_)
  · obtain ⟨a, n, tp, R, rfl, _⟩ := h
    rfl
  obtain ⟨a, n, tp, R, rfl, hT, hS, q⟩ := h
  obtain ⟨ra, bs, ha, hra, hR⟩ := hT
  have few := hS.few
  have G := hS.gd
  refine ⟨_, (pss_cons (ps_asg (pv 0) (pg_tup rfl (pgs_cons (pg_name (i := 1) sc_many_in.nd rfl (Or.inl rfl)) (pgs_cons (pg_name (i := 2) sc_many_in.nd rfl (Or.inl rfl)) (pgs_cons (pg_name (i := 3) sc_many_in.nd rfl (Or.inl rfl)) pgs_nil)))))
    (pss_cons (ps_set (i := 4) sc_many_in.nd rfl (Or.inr rfl) (pe_lst (pa_cons pe_int (pa_cons pe_int pa_nil))))
    (pss_cons (ps_for PassesOwn.never rfl (pi_tup (pv 3)) (pg_name (i := 5) sc_many_in.nd rfl (Or.inl rfl))
      (pss_one (ps_expr (pe_bm PySem.F.plainAttrs_list PySem.F.slot_list_append PySem.F.type_list_append mt_append (pv 4) (pa_cons (pe_callB (cr_sum rfl) (by rfl) T.b_sum (by decide +kernel) (pa_cons (pe_lc (own := [("number", 6)]) (g := gName 6) (te := tOp (rIxL K) (tVar 4) (tVar 6)) rfl sc_many_in.nd (pi_tup (pv 5)) (blkOk_by (N := ["shape", "n", "top", "rows", "found", "row", "number"]) (sc := defScope s_many_in) (by decide +kernel)) (fun _ _ _ _ _ => (pg_name (i := 6) sc_many_in.nd rfl (Or.inl rfl))) (fun _ _ _ _ _ => pts_nil) (fun _ _ _ _ _ => (pe_ix ix_list (pv 4) (pv 6) (fun _ _ => rfl)))) pa_nil)) pa_nil)))))
    (pss_one (ps_ret (pe_ix ix_list (pv 4) (pv 2) (fun _ _ => rfl))))))), ?_⟩
  refine ⟨_, rfl, a, _, rfl, SqT.of ha, rfl, _, _, rfl, _, _, rfl, _, _, rfl, rfl, ?_⟩
  refine ⟨(by show 2 ≤ sizeLine; decide), fun l hl0 => ?_⟩
  have hbl := hR.len
  refine ⟨_, rfl, ra, rfl, ⟨_, SqT.of (same_new hl0 _ _ _ hra)⟩, for_it (walk_tup (xs := bs.map V.ref)) (fun i σ H' => Same H H' ∧ H' l = some (.lst (natsV (lvs (R.take i)))) ∧ ∃ v2 v3, σ = [some (.ref a), some (.int n), some (.int tp), some (.ref ra), some (.ref l), v2, v3])
    ⟨same_new hl0 _, upd_same, none, none, rfl⟩ (fun _ _ _ _ ⟨s1, _⟩ => SqT.of (s1 _ _ hra)) ?_ ?_⟩
  · rintro i x σ H1 H2 hi ⟨s1, h1, v2, v3, rfl⟩ ⟨rfl, hx⟩
    rw [List.length_map] at hi
    obtain ⟨b, hb, rfl⟩ : ∃ b, bs[i]? = some b ∧ x = .ref b := by
      rw [List.getElem?_map] at hx
      obtain ⟨b, e1, e2⟩ := Option.map_eq_some_iff.mp hx
      exact ⟨b, e1, e2.symm⟩
    obtain ⟨r, hr', hrow⟩ := hR.at hb
    obtain ⟨ga, gb, gc, gd⟩ := G.lt i r hr'
    have hF : (lvs (R.take i)).length = i + 2 := by unfold lvs; rw [tab_len, List.length_take]; simp; omega
    refine ⟨_, rfl, .inl ⟨rfl, _, SqL.of h1⟩, ?_⟩
    refine ⟨_, rfl, b, rfl, ⟨_, SqT.of (s1 _ _ hrow)⟩, fun D hD => ?_⟩
    have hDl : l ≠ D := ne_of_none h1 hD
    refine lc_it (walk_tup (xs := rowV r)) (fun j H' => Same H2 H' ∧ H' D = some (.lst (natsV ((four (lvs (R.take i)) r).take j)))) ⟨same_new hD _, upd_same⟩ (fun _ _ _ ⟨s2, _⟩ => SqT.of (s2 _ _ (s1 _ _ hrow))) ?_ ?_
    · rintro j y H3 H4 hj ⟨s2, h2⟩ ⟨rfl, hy⟩
      obtain ⟨m, rfl, hm, h4, em⟩ := rowV_get hy
      refine ⟨rfl, ?_⟩
      have hml : m < (lvs (R.take i)).length := by omega
      refine ⟨_, rfl, _, rfl, l, _, _, _, rfl, rfl, SqL.of (s2 _ _ h1), natsV_at hml, _, h2, ?_, ?_⟩
      · rw [natsV, List.length_map, List.length_take]
        exact sz_lt (by omega)
      · refine ⟨same_mut s2 hD _, ?_⟩
        rw [upd_same, four_take _ _ h4 em, natsV_snoc]
    · rintro H3 ⟨s2, h2⟩
      have e4 : (four (lvs (R.take i)) r).take (rowV r).length = four (lvs (R.take i)) r := rfl
      rw [e4] at h2
      refine ⟨D, (four (lvs (R.take i)) r).map fun n : Nat => (n : Int), rfl, ?_, ?_⟩
      · have : (natsV (four (lvs (R.take i)) r)) = ((four (lvs (R.take i)) r).map fun n : Nat => (n : Int)).map V.int := by
          rw [natsV, List.map_map]
          rfl
        rw [← this]
        exact SqL.of h2
      · have es : ((four (lvs (R.take i)) r).map fun n : Nat => (n : Int)).sum = ((QF.nth (lvs (R.take i)) r.a + QF.nth (lvs (R.take i)) r.b + QF.nth (lvs (R.take i)) r.c + QF.nth (lvs (R.take i)) r.d : Nat) : Int) := by
          simp only [four, List.map_cons, List.map_nil, List.sum_cons, List.sum_nil]
          omega
        rw [es]
        refine ⟨l, _, _, rfl, rfl, s2 _ _ h1, ?_, ?_⟩
        · rw [natsV, List.length_map, hF]
          exact sz_lt (by omega)
        · refine ⟨fun b o e => ?_, ?_, _, _, rfl⟩
          · rw [upd_ne (ne_of_none e hl0)]
            exact s2 _ _ (s1 _ _ e)
          · rw [upd_same, take_snoc hr']
            unfold lvs
            rw [tab_snoc, natsV_snoc]
  · rintro σ H1 ⟨s1, h1, v2, v3, rfl⟩
    rw [List.length_map, hbl, List.take_length] at h1
    have hl : tp < (lvs R).length := by
      unfold lvs
      rw [tab_len]
      have := hS.lt
      simp
      omega
    exact ⟨_, rfl, _, rfl, l, _, _, _, rfl, rfl, SqL.of h1, natsV_at hl, q _ s1⟩
/-! want_coarse: slots 0 shape -/
abbrev s_want_coarse : Stmt := top 31
theorem sc_want_coarse : FnScope ["shape"] ["shape"] (defScope s_want_coarse) := ⟨rfl, rfl, rfl, by decide +kernel, rfl, by decide +kernel, by decide +kernel⟩
theorem c_want_coarse (T : Txt K mg C) : Cal P w K mg base 2 "want_coarse" spWantShape := by
  have G_many_in := c_many_in (P := P) (w := w) (base := base) T
  refine T.d_want_coarse.cal sc_want_coarse (fun vs H Q E h => ?_) (fun f cdv A outer s H vs Q E hr h => ?_)
  · obtain ⟨a, n, tp, R, rfl, _⟩ := h
    rfl
  obtain ⟨a, n, tp, R, rfl, hT, hS, q⟩ := h
  refine ⟨_, (pss_one (ps_if (pt_cmpR op_gt (pe_c G_many_in hr (by decide) (by rfl) (pa_cons (pv 0) pa_nil)) (pe_gl (by rfl) T.gML) (nomark _))
      (pss_one ps_never)
      pss_nil)), ?_⟩
  refine ⟨_, rfl, a, n, tp, R, rfl, hT, hS, fun H1 s1 => ?_⟩
  refine ⟨_, _, rfl, rfl, _, rfl, ite2 (fun c => absurd (of_decide_eq_true c) (by have := hS.lv; show ¬ ((QF.nth (lvs R) tp : Nat) : Int) > 2000; omega)) (fun _ => q _ s1)⟩
end
end QW
set_option Elab.async false
set_option linter.all false
set_option maxRecDepth 100000
set_option maxHeartbeats 4000000
/-! The walk, 7: leaves_of. -/
namespace QW
open PySem PySem.Spec PyProof.Rows L2 QX QF
/-! ### things that stand at places, one by one -/
section
variable {α : Type}
def Each (Pr : Hp → Addr → α → Prop) (H : Hp) (bs : List Addr) (xs : List α) : Prop := bs.length = xs.length ∧ ∀ (i : Nat) (b : Addr) (x : α), bs[i]? = some b → xs[i]? = some x → Pr H b x
variable {Pr : Hp → Addr → α → Prop} {H H' : Hp} {bs : List Addr} {xs : List α}
theorem Each.mono (h : Each Pr H bs xs) (f : ∀ b x, Pr H b x → Pr H' b x) : Each Pr H' bs xs := ⟨h.1, fun i b x e1 e2 => f b x (h.2 i b x e1 e2)⟩
theorem Each.nil : Each Pr H [] [] := ⟨rfl, fun i b x e => by simp at e⟩
theorem Each.snoc {b : Addr} {x : α} (h : Each Pr H bs xs) (p : Pr H b x) : Each Pr H (bs ++ [b]) (xs ++ [x]) := by
  refine ⟨by simp [h.1], fun i b' x' e1 e2 => ?_⟩
  by_cases c : i < bs.length
  · rw [List.getElem?_append_left c] at e1
    rw [List.getElem?_append_left (by rw [← h.1]; exact c)] at e2
    exact h.2 i b' x' e1 e2
  · have : i = bs.length := by
      have := (List.getElem?_eq_some_iff.mp e1).1
      simp at this
      omega
    subst this
    rw [h.1] at e2
    simp at e1 e2
    subst e1
    subst e2
    exact p
theorem Each.last {x : α} (h : Each Pr H bs (xs ++ [x])) : ∃ bs' b, bs = bs' ++ [b] ∧ Each Pr H bs' xs ∧ Pr H b x := by
  obtain ⟨hl, hp⟩ := h
  rcases List.eq_nil_or_concat bs with e | ⟨bs', b, e⟩
  · subst e
    simp at hl
  · rw [List.concat_eq_append] at e
    subst e
    have hl' : bs'.length = xs.length := by simpa using hl
    refine ⟨bs', b, rfl, ⟨hl', fun i b' x' e1 e2 => ?_⟩, hp bs'.length b x (by simp) (by rw [hl']; simp)⟩
    have c := (List.getElem?_eq_some_iff.mp e1).1
    exact hp i b' x' (by rw [List.getElem?_append_left c]; exact e1) (by rw [List.getElem?_append_left (by omega)]; exact e2)
theorem Each.at {i : Nat} {b : Addr} (h : Each Pr H bs xs) (e : bs[i]? = some b) : ∃ x, xs[i]? = some x ∧ Pr H b x := by
  have c := (List.getElem?_eq_some_iff.mp e).1
  rw [h.1] at c
  exact ⟨xs[i], List.getElem?_eq_getElem c, h.2 i b _ e (List.getElem?_eq_getElem c)⟩
/-- an element of a list of places -/
theorem refs_at {i : Nat} {x : V} (e : (bs.map V.ref)[i]? = some x) : ∃ b, bs[i]? = some b ∧ x = .ref b := by
  rw [List.getElem?_map] at e
  obtain ⟨b, e1, e3⟩ := Option.map_eq_some_iff.mp e
  exact ⟨b, e1, e3.symm⟩
end
/-- tuples stay -/
def TS (H H' : Hp) : Prop := ∀ b xs, H b = some (.tup xs) → H' b = some (.tup xs)
theorem ts_same {H H' : Hp} (s : Same H H') : TS H H' := fun b xs e => s _ _ e
theorem ts_trans {H H1 H2 : Hp} (a : TS H H1) (b : TS H1 H2) : TS H H2 := fun c xs e => b _ _ (a _ _ e)
theorem ts_put {H : Hp} {p : Addr} {xs : List V} (h : H p = some (.lst xs)) (o : HO) : TS H (upd H p o) := fun b ys e => by
  rw [upd_ne (fun z => by rw [z, h] at e; cases e)]
  exact e
structure Nd where
  ad : List Nat
  k : Nat
  r : Int
  c : Int
  m : Nat
def Nd.lv (R : List Qd) (x : Nd) : List Lf := lvg R x.k x.m x.r x.c x.ad
structure Nd.Ok (n : Nat) (R : List Qd) (x : Nd) : Prop where
  lt : x.m < R.length + 2
  dep : QF.nth (deps R) x.m ≤ x.k
  len : x.ad.length + x.k = n
  fig : ∀ d ∈ x.ad, 48 ≤ d ∧ d < 52
def ndW (R : List Qd) (x : Nd) : Nat := 4 * QF.nth (lvs R) x.m - 1
def ndsW (R : List Qd) (T : List Nd) : Nat := (T.map (ndW R)).sum
theorem ndsW_append (R : List Qd) (T S : List Nd) : ndsW R (T ++ S) = ndsW R T + ndsW R S := by simp [ndsW]
theorem ndsW_len {R : List Qd} (G : Gd R) {n : Nat} : ∀ {T : List Nd}, (∀ x ∈ T, x.Ok n R) → T.length ≤ ndsW R T
  | [], _ => Nat.le_refl _
  | x :: T, h => by
    have h1 := lvs_pos R x.m G (h x (List.mem_cons_self ..)).lt
    have h2 := ndsW_len G (T := T) fun y hy => h y (List.mem_cons_of_mem _ hy)
    have e : ndsW R (x :: T) = ndW R x + ndsW R T := rfl
    rw [e]
    unfold ndW
    simp only [List.length_cons]
    omega
def NdAt (H : Hp) (b : Addr) (x : Nd) : Prop := H b = some (.tup [.str (strOf x.ad), .int (x.m : Nat)])
def LfAt (H : Hp) (b : Addr) (l : Lf) : Prop := H b = some (.tup [.str (strOf l.ad), .bl l.full])
def ndD (x : Nd) : PyData := .tuple [.str (strOf x.ad), .int (x.m : Nat)]
theorem strOk_of {ad : List Nat} (h : ∀ d ∈ ad, 48 ≤ d ∧ d < 52) : PyData.strOk (strOf ad) = true := by
  unfold PyData.strOk strOf
  rw [Array.all_eq_true]
  intro i hi
  have hm : ad[i]'(by simpa using hi) ∈ ad := List.getElem_mem _
  have := (h _ hm).2
  simp
  omega
theorem dp_nds {K : PySem.W.Frag} {H : Hp} : ∀ {ts : List Addr} {T : List Nd}, Each NdAt H ts T → DpAll K H (ts.map V.ref) (T.map ndD)
  | [], [], _ => .nil
  | t :: ts, x :: T, h => .cons (.tup (SqT.of (h.2 0 t x rfl rfl)) (.cons (.str _) (.cons (.int _) .nil))) (dp_nds ⟨by simpa using h.1, fun i b y e1 e2 => h.2 (i + 1) b y (by simpa using e1) (by simpa using e2)⟩)
  | [], _ :: _, h => absurd h.1 (by simp)
  | _ :: _, [], h => absurd h.1 (by simp)
theorem nds_shaped {n : Nat} {R : List Qd} {T : List Nd} (h : ∀ x ∈ T, x.Ok n R) : SeqAt.shaped (.list (T.map ndD)) = true := by
  have h1 : PyData.canLayAll0 (T.map ndD) = true ∧ PyData.depthAll (T.map ndD) ≤ 1 := by
    induction T with
    | nil => exact ⟨rfl, Nat.zero_le _⟩
    | cons x T ih =>
      obtain ⟨i1, i2⟩ := ih fun y hy => h y (List.mem_cons_of_mem _ hy)
      have hs := strOk_of (h x (List.mem_cons_self ..)).fig
      refine ⟨?_, ?_⟩
      · show (PyData.canLay0 (ndD x) && PyData.canLayAll0 (T.map ndD)) = true
        rw [i1]
        simp [ndD, PyData.canLay0, PyData.canLayAll0, hs]
      · show max (PyData.depth (ndD x)) (PyData.depthAll (T.map ndD)) ≤ 1
        have e : PyData.depth (ndD x) = 1 := by simp [ndD, PyData.depth, PyData.depthAll]
        omega
  unfold SeqAt.shaped
  simp only [PyData.canLay0, PyData.depth, h1.1]
  simp
  omega
theorem nds_eqv (T : List Nd) : PyData.eqv (.list (T.map ndD)) (.list []) = T.isEmpty := by
  cases T <;> simp [PyData.eqv, PyData.eqvAll]
theorem fig_in4 {j : Nat} (h : j < 4) : atI (("0123" : Str)).cps.toList (j : Int) = some (48 + j) := by
  match j, h with
  | 0, _ => rfl
  | 1, _ => rfl
  | 2, _ => rfl
  | 3, _ => rfl
theorem strOf_snoc (ad : List Nat) (x : Nat) : strOf ad ++ (⟨#[x]⟩ : Str) = strOf (ad ++ [x]) := by
  show (⟨(strOf ad).cps ++ #[x]⟩ : Str) = _
  simp [strOf]
theorem qat_at {q : Qd} {j : Nat} (h : j < 4) : atI (rowV q) (j : Int) = some (.int (qat q j : Nat)) := by
  match j, h with
  | 0, _ => rfl
  | 1, _ => rfl
  | 2, _ => rfl
  | 3, _ => rfl
theorem full_eq (m : Nat) : decide (V.int (m : Int) = V.int 1) = (m == 1) := by
  rw [Bool.eq_iff_iff]
  simp
  omega
/-- the kids of a node, as they are laid onto the stack -/
def kids (x : Nd) (q : Qd) : List Nd :=
  [⟨x.ad ++ [51], x.k - 1, x.r + (2 : Int) ^ (x.k - 1), x.c + (2 : Int) ^ (x.k - 1), q.d⟩, ⟨x.ad ++ [50], x.k - 1, x.r + (2 : Int) ^ (x.k - 1), x.c, q.c⟩,
    ⟨x.ad ++ [49], x.k - 1, x.r, x.c + (2 : Int) ^ (x.k - 1), q.b⟩, ⟨x.ad ++ [48], x.k - 1, x.r, x.c, q.a⟩]
theorem kids_at {x : Nd} {q : Qd} {i : Nat} {y : Nd} (h : (kids x q)[i]? = some y) : i < 4 ∧ y.ad = x.ad ++ [48 + (3 - i)] ∧ y.m = qat q (3 - i) := by
  match i, h with
  | 0, h => simp [kids] at h; subst h; exact ⟨by omega, rfl, rfl⟩
  | 1, h => simp [kids] at h; subst h; exact ⟨by omega, rfl, rfl⟩
  | 2, h => simp [kids] at h; subst h; exact ⟨by omega, rfl, rfl⟩
  | 3, h => simp [kids] at h; subst h; exact ⟨by omega, rfl, rfl⟩
  | i + 4, h => simp [kids] at h
theorem kids_ok {n : Nat} {R : List Qd} (G : Gd R) {x : Nd} (hx : x.Ok n R) {q : Qd} (hq : R[x.m - 2]? = some q) (h2 : ¬ x.m < 2) : (∀ y ∈ kids x q, y.Ok n R) ∧ ndsW R (kids x q) < ndW R x ∧ (kids x q).reverse.flatMap (Nd.lv R) = x.lv R := by
  obtain ⟨k', i, q', hk, hmi, hq', ⟨ha, ha'⟩, ⟨hb, hb'⟩, ⟨hc, hc'⟩, ⟨hd, hd'⟩⟩ := down G hx.lt hx.dep h2
  have e2 : x.m - 2 = i := by omega
  rw [e2, hq'] at hq
  cases hq
  have hl := hx.len
  have hk' : x.k - 1 = k' := by omega
  refine ⟨?_, ?_, ?_⟩
  · intro y hy
    have fg : ∀ d, 48 ≤ d → d < 52 → ∀ z ∈ x.ad ++ [d], 48 ≤ z ∧ z < 52 := fun d h1 h2 z hz => by
      rcases List.mem_append.mp hz with hz | hz
      · exact hx.fig z hz
      · rw [List.mem_singleton.mp hz]; exact ⟨h1, h2⟩
    simp only [kids, List.mem_cons, List.not_mem_nil, or_false] at hy
    rcases hy with rfl | rfl | rfl | rfl
    · exact ⟨hd, hk'.symm ▸ hd', by simp; omega, fg _ (by omega) (by omega)⟩
    · exact ⟨hc, hk'.symm ▸ hc', by simp; omega, fg _ (by omega) (by omega)⟩
    · exact ⟨hb, hk'.symm ▸ hb', by simp; omega, fg _ (by omega) (by omega)⟩
    · exact ⟨ha, hk'.symm ▸ ha', by simp; omega, fg _ (by omega) (by omega)⟩
  · have e := lvs_row hq' G
    rw [← hmi] at e
    have pa := lvs_pos R _ G ha
    have pb := lvs_pos R _ G hb
    have pc := lvs_pos R _ G hc
    have pd := lvs_pos R _ G hd
    simp only [kids, ndsW, ndW, List.map_cons, List.map_nil, List.sum_cons, List.sum_nil]
    rw [e]
    omega
  · simp only [kids, List.reverse_cons, List.reverse_nil, List.nil_append, List.cons_append, List.flatMap_cons, List.flatMap_nil, List.append_nil, Nd.lv]
    rw [hk', hk, hmi, lvg_row hq']
    simp only [List.append_assoc]
section
variable {P : Program} {w : World} {K : PySem.W.Frag} {mg : Str → Option Value} {base : Heap} {C : Addr}
def spLeavesOf : Sp := fun vs H Q _ => ∃ (a : Addr) (n tp : Nat) (R : List Qd), vs = [.ref a] ∧ TellAt H a n tp R ∧ Shp n tp R ∧
  ∀ b ls H', Same H H' → H' b = some (.lst (ls.map V.ref)) → Each LfAt H' ls (lvg R n tp 0 0 []) → Q (.ref b) H'
/-! leaves_of: slots 0 shape, 1 n, 2 top, 3 rows, 4 found, 5 waiting, 6 address, 7 number, 8 place -/
abbrev s_leaves_of : Stmt := top 32
theorem sc_leaves_of : FnScope ["shape", "n", "top", "rows", "found", "waiting", "address", "number", "place"] ["shape"] (defScope s_leaves_of) := ⟨rfl, rfl, rfl, by decide +kernel, rfl, by decide +kernel, by decide +kernel⟩
theorem c_leaves_of (T : Txt K mg C) : Cal P w K mg base 19 "leaves_of" spLeavesOf := by
  have G_want_shape := c_want_shape (P := P) (w := w) (base := base) T
  have G_want_coarse := c_want_coarse (P := P) (w := w) (base := base) T
  refine T.d_leaves_of.cal sc_leaves_of (fun vs H Q E h => ?_) (fun f cdv A outer s H vs Q E hr h => ?_)
  · obtain ⟨a, n, tp, R, rfl, _⟩ := h
    rfl
  obtain ⟨a, n, tp, R, rfl, hT, hS, q⟩ := h
  have few := hS.few
  have G := hS.gd
  have n12 := hS.n12
  have two : 2 ≤ sizeLine := by decide
  refine ⟨_, (pss_cons (ps_expr (pe_c G_want_shape hr (by decide) (by rfl) (pa_cons (pv 0) pa_nil)))
    (pss_cons (ps_expr (pe_c G_want_coarse hr (by decide) (by rfl) (pa_cons (pv 0) pa_nil)))
    (pss_cons (ps_asg (pv 0) (pg_tup rfl (pgs_cons (pg_name (i := 1) sc_leaves_of.nd rfl (Or.inl rfl)) (pgs_cons (pg_name (i := 2) sc_leaves_of.nd rfl (Or.inl rfl)) (pgs_cons (pg_name (i := 3) sc_leaves_of.nd rfl (Or.inl rfl)) pgs_nil)))))
    (pss_cons (ps_set (i := 4) sc_leaves_of.nd rfl (Or.inl rfl) (pe_lst pa_nil))
    (pss_cons (ps_set (i := 5) sc_leaves_of.nd rfl (Or.inl rfl) (pe_lst (pa_cons (pe_tup (pa_cons pe_str (pa_cons (pv 2) pa_nil))) pa_nil)))
    (pss_cons (ps_while PassesOwn.never (pt_cmpR (op_neD hr.units) (pv 5) (pe_lst pa_nil) (nomark _))
      (pss_cons (ps_asg (pe_bm0 PySem.F.plainAttrs_list PySem.F.slot_list_pop PySem.F.type_list_pop mt_pop (pv 5)) (pg_tup rfl (pgs_cons (pg_name (i := 6) sc_leaves_of.nd rfl (Or.inl rfl)) (pgs_cons (pg_name (i := 7) sc_leaves_of.nd rfl (Or.inl rfl)) pgs_nil))))
      (pss_one (ps_if (pt_cmpR op_lt (pv 7) pe_int (nomark _))
        (pss_one (ps_expr (pe_bm PySem.F.plainAttrs_list PySem.F.slot_list_append PySem.F.type_list_append mt_append (pv 4) (pa_cons (pe_tup (pa_cons (pv 6) (pa_cons (pe_cmpR op_eq (pv 7) pe_int (nomark _)) pa_nil))) pa_nil))))
        (pss_one (ps_for PassesOwn.never rfl (pi_range3 (by rfl) T.b_range (pa_cons pe_int (pa_cons (pe_un un_neg pe_int) (pa_cons (pe_un un_neg pe_int) pa_nil)))) (pg_name (i := 8) sc_leaves_of.nd rfl (Or.inl rfl))
          (pss_one (ps_expr (pe_bm PySem.F.plainAttrs_list PySem.F.slot_list_append PySem.F.type_list_append mt_append (pv 5) (pa_cons (pe_tup (pa_cons (pe_op op_add_str (pv 6) (pe_ix ix_str (pe_gl (by rfl) T.gFG) (pv 8) (fun _ _ => rfl))) (pa_cons (pe_ix ix_tup (pe_ix ix_tup (pv 3) (pe_op op_sub (pv 7) pe_int) (fun _ _ => rfl)) (pv 8) (fun _ _ => rfl)) pa_nil))) pa_nil))))))))))
    (pss_one (ps_ret (pv 4))))))))), ?_⟩
  refine ⟨_, rfl, a, n, tp, R, rfl, hT, hS, fun H1 s1 => ?_⟩
  refine ⟨_, rfl, a, n, tp, R, rfl, hT.same s1, hS, fun H2 s2 => ?_⟩
  obtain ⟨ra, bs, ha, hra, hR⟩ := hT.same (s1.trans s2)
  have s12 := s1.trans s2
  refine ⟨_, rfl, a, _, rfl, SqT.of ha, rfl, _, _, rfl, _, _, rfl, _, _, rfl, rfl, ?_⟩
  refine ⟨Nat.zero_le _, fun fo hfo => ?_⟩
  refine ⟨_, rfl, two, fun t0 ht0 => ⟨by show 1 ≤ sizeLine; decide, fun wa hwa => ?_⟩⟩
  have s3 := same_then (same_then (same_then s12 hfo (.lst [])) ht0 (.tup [.str "", .int tp])) hwa (.lst [.ref t0])
  have s3' := same_then (same_then (same_new hfo (.lst [])) ht0 (.tup [.str "", .int tp])) hwa (.lst [.ref t0])
  have nwf : wa ≠ fo := fun z => by rw [z, upd_ne (ne_of_none (show (upd H2 fo (.lst [])) fo = some (.lst []) from upd_same) ht0), upd_same] at hwa; cases hwa
  have hfo3 : (upd (upd (upd H2 fo (.lst [])) t0 (.tup [.str "", .int tp])) wa (.lst [.ref t0])) fo = some (.lst []) := (same_new hwa _) _ _ ((same_new ht0 _) _ _ upd_same)
  have ht3 : (upd (upd (upd H2 fo (.lst [])) t0 (.tup [.str "", .int tp])) wa (.lst [.ref t0])) t0 = some (.tup [.str "", .int tp]) := (same_new hwa _) _ _ upd_same
  have hwa3 : (upd (upd (upd H2 fo (.lst [])) t0 (.tup [.str "", .int tp])) wa (.lst [.ref t0])) wa = some (.lst [.ref t0]) := upd_same
  have hfoH : H fo = none := by
    cases z : H fo with
    | none => rfl
    | some o => have := s12 _ _ z; rw [hfo] at this; cases this
  have hwaH : H wa = none := by
    cases z : H wa with
    | none => rfl
    | some o => have := (same_then (same_then s12 hfo (.lst [])) ht0 (.tup [.str "", .int tp])) _ _ z; rw [hwa] at this; cases this
  have hra3 := s3' _ _ hra
  have hR3 := hR.same s3'
  generalize (upd (upd (upd H2 fo (.lst [])) t0 (.tup [.str "", .int tp])) wa (.lst [.ref t0])) = H3 at s3 hfo3 ht3 hwa3 hra3 hR3 ⊢
  refine ⟨fun m σ H' => ∃ (S : List Nd) (ts : List Addr) (L : List Lf) (ls : List Addr) (v6 v7 v8 : Option V), m = ndsW R S ∧ Same H H' ∧ TS H3 H' ∧ H' wa = some (.lst (ts.map V.ref)) ∧ Each NdAt H' ts S ∧ (∀ x ∈ S, x.Ok n R) ∧ ndsW R S ≤ 8000 ∧
      H' fo = some (.lst (ls.map V.ref)) ∧ Each LfAt H' ls L ∧ L ++ S.reverse.flatMap (Nd.lv R) = lvg R n tp 0 0 [] ∧
      σ = [some (.ref a), some (.int n), some (.int tp), some (.ref ra), some (.ref fo), some (.ref wa), v6, v7, v8], ⟨_, [⟨[], n, 0, 0, tp⟩], [t0], [], [], none, none, none, rfl, s3, fun _ _ e => e, hwa3, ?_, ?_, ?_, hfo3, Each.nil, ?_, rfl⟩, ?_⟩
  · exact Each.nil.snoc (bs := []) (xs := []) ht3
  · intro x hx
    rw [List.mem_singleton.mp hx]
    exact ⟨by have := hS.lt; omega, hS.dep, by simp, by simp⟩
  · have := hS.lv
    simp only [ndsW, ndW, List.map_cons, List.map_nil, List.sum_cons, List.sum_nil]
    omega
  · simp [Nd.lv]
  rintro m σ H4 ⟨S, ts, L, ls, v6, v7, v8, rfl, s4, t4, hw4, hts, hok, hM, hf4, hls, hL, rfl⟩
  refine ⟨_, rfl, Nat.zero_le _, fun e he => ?_⟩
  have s5 := same_new he (.lst [])
  refine ⟨_, _, .lst (SqL.of (s5 _ _ hw4)) (dp_nds (hts.mono fun b x h => s5 _ _ h)), .lst (SqL.of upd_same) .nil, nds_shaped hok, by simp [SeqAt.shaped, PyData.canLay0, PyData.canLayAll0, PyData.depth, PyData.depthAll], ?_⟩
  rw [nds_eqv]
  have hw5 := s5 _ _ hw4
  have hf5 := s5 _ _ hf4
  have hts5 : Each NdAt (upd H4 e (.lst [])) ts S := hts.mono fun b x h => s5 _ _ h
  have hls5 : Each LfAt (upd H4 e (.lst [])) ls L := hls.mono fun b x h => s5 _ _ h
  have t5 : TS H3 (upd H4 e (.lst [])) := ts_trans t4 (ts_same s5)
  replace s5 : Same H (upd H4 e (.lst [])) := s4.trans s5
  generalize upd H4 e (.lst []) = H5 at s5 hw5 hf5 hts5 hls5 t5 ⊢
  refine ⟨_, rfl, ?_⟩
  rcases List.eq_nil_or_concat S with e | ⟨S', x, e⟩
  · subst e
    refine iteF ?_
    rw [List.reverse_nil, List.flatMap_nil, List.append_nil] at hL
    subst hL
    exact ⟨_, rfl, q fo ls H5 s5 hf5 hls5⟩
  · rw [List.concat_eq_append] at e
    subst e
    have eE : (!(S' ++ [x]).isEmpty) = true := by simp
    rw [eE]
    refine iteT ?_
    have hx := hok x (by simp)
    have hok' : ∀ y ∈ S', y.Ok n R := fun y hy => hok y (by simp [hy])
    rw [ndsW_append] at hM
    have eW : ndsW R [x] = ndW R x := by simp [ndsW]
    rw [eW] at hM
    rw [List.reverse_append, List.reverse_singleton, List.singleton_append, List.flatMap_cons] at hL
    obtain ⟨ts', t, rfl, hts', ht⟩ := hts5.last
    have lenw := ndsW_len G hok'
    have lvp := lvs_pos R x.m G hx.lt
    refine ⟨fun σ' H' => ∃ m', m' < ndsW R (S' ++ [x]) ∧ ∃ (S : List Nd) (ts : List Addr) (L : List Lf) (ls : List Addr) (v6 v7 v8 : Option V), m' = ndsW R S ∧ Same H H' ∧ TS H3 H' ∧ H' wa = some (.lst (ts.map V.ref)) ∧ Each NdAt H' ts S ∧ (∀ x ∈ S, x.Ok n R) ∧ ndsW R S ≤ 8000 ∧
      H' fo = some (.lst (ls.map V.ref)) ∧ Each LfAt H' ls L ∧ L ++ S.reverse.flatMap (Nd.lv R) = lvg R n tp 0 0 [] ∧
      σ' = [some (.ref a), some (.int n), some (.int tp), some (.ref ra), some (.ref fo), some (.ref wa), v6, v7, v8], fun _ _ h => h, ?_⟩
    refine ⟨_, rfl, .inl ⟨rfl, _, SqL.of hw5⟩, wa, _, .ref t, rfl, rfl, hw5, by simp, ?_⟩
    have edl : ((ts' ++ [t]).map V.ref).dropLast = ts'.map V.ref := by simp
    rw [edl]
    have t6 : TS H5 (upd H5 wa (.lst (ts'.map V.ref))) := ts_put hw5 _
    have hw6 : (upd H5 wa (.lst (ts'.map V.ref))) wa = some (.lst (ts'.map V.ref)) := upd_same
    have hf6 : (upd H5 wa (.lst (ts'.map V.ref))) fo = some (.lst (ls.map V.ref)) := by rw [upd_ne nwf.symm]; exact hf5
    have s6 : Same H (upd H5 wa (.lst (ts'.map V.ref))) := same_mut s5 hwaH _
    have ht6 : NdAt (upd H5 wa (.lst (ts'.map V.ref))) t x := t6 _ _ ht
    have hts6 : Each NdAt (upd H5 wa (.lst (ts'.map V.ref))) ts' S' := hts'.mono fun b x h => t6 _ _ h
    have hls6 : Each LfAt (upd H5 wa (.lst (ts'.map V.ref))) ls L := hls5.mono fun b x h => t6 _ _ h
    replace t6 := ts_trans t5 t6
    generalize upd H5 wa (.lst (ts'.map V.ref)) = H6 at t6 hw6 hf6 s6 ht6 hts6 hls6 ⊢
    refine ⟨t, _, rfl, SqT.of ht6, rfl, _, _, rfl, _, _, rfl, rfl, ?_⟩
    refine ⟨_, rfl, _, _, rfl, rfl, _, rfl, ite2 (fun c => ?_) (fun c => ?_)⟩
    · have c' : (x.m : Int) < 2 := of_decide_eq_true c
      have c2 : x.m < 2 := by omega
      have lvx : x.lv R = [⟨x.ad, x.r, x.c, (2 : Int) ^ x.k, x.m == 1⟩] := lvg_low c2
      have lvL := congrArg List.length hL
      rw [lvx] at hL
      rw [List.length_append, lvg_len G _ _ _ _ _ (by have := hS.lt; omega) hS.dep] at lvL
      have hlv := hS.lv
      refine ⟨_, rfl, .inl ⟨rfl, _, SqL.of hf6⟩, ?_⟩
      refine ⟨_, rfl, _, rfl, rfl, two, fun u hu => ?_⟩
      rw [full_eq]
      have s7 := same_new hu (.tup [.str (strOf x.ad), .bl (x.m == 1)])
      refine ⟨fo, _, _, rfl, rfl, s7 _ _ hf6, ?_, ?_⟩
      · rw [List.length_map, hls.1]
        exact sz_lt (by omega)
      · refine ⟨_, ?_, S', ts', L ++ [⟨x.ad, x.r, x.c, (2 : Int) ^ x.k, x.m == 1⟩], ls ++ [u], _, _, _, rfl, same_mut (s6.trans s7) hfoH _, ?_, ?_, ?_, hok', by omega, ?_, ?_, ?_, rfl⟩
        · rw [ndsW_append, eW]
          unfold ndW
          omega
        · exact ts_trans (ts_trans t6 (ts_same s7)) (ts_put (s7 _ _ hf6) _)
        · rw [upd_ne nwf]
          exact s7 _ _ hw6
        · exact hts6.mono fun b y h => (ts_put (s7 _ _ hf6) _) _ _ (s7 _ _ h)
        · rw [upd_same, List.map_append]
          rfl
        · refine (hls6.mono fun b y h => (ts_put (s7 _ _ hf6) _) _ _ (s7 _ _ h)).snoc ?_
          exact (ts_put (s7 _ _ hf6) _) _ _ upd_same
        · rw [List.append_assoc]
          exact hL
    · have c2 : ¬ x.m < 2 := fun z => c (decide_eq_true (by show (x.m : Int) < 2; omega))
      have hxl := hx.lt
      have hq : R[x.m - 2]? = some R[x.m - 2] := List.getElem?_eq_getElem (by omega)
      obtain ⟨kok, kw, kl⟩ := kids_ok G hx hq c2
      obtain ⟨rb, hrb, hrow⟩ := hR3.get hq
      refine ⟨_, rfl, _, rfl, 3, -1, -1, 4, rfl, RgC.neg (by decide) (by decide) (by decide) (by decide), ?_⟩
      refine for_it walk_rangeC (fun i σ H' => Same H H' ∧ TS H3 H' ∧ ∃ ts v8, H' wa = some (.lst (ts.map V.ref)) ∧ Each NdAt H' ts (S' ++ (kids x R[x.m - 2]).take i) ∧ H' fo = some (.lst (ls.map V.ref)) ∧ Each LfAt H' ls L ∧
          σ = [some (.ref a), some (.int n), some (.int tp), some (.ref ra), some (.ref fo), some (.ref wa), some (.str (strOf x.ad)), some (.int (x.m : Nat)), v8])
        ⟨s6, t6, ts', _, hw6, by rw [List.take_zero, List.append_nil]; exact hts6, hf6, hls6, rfl⟩ (fun _ _ _ _ _ => trivial) ?_ ?_
      · rintro i y σ H7 H8 hi ⟨s7, t7, ts7, v8', hw7, hts7, hf7, hls7, rfl⟩ ⟨rfl, rfl⟩
        have hk4 : (kids x R[x.m - 2]).length = 4 := rfl
        have hy : (kids x R[x.m - 2])[i]? = some (kids x R[x.m - 2])[i] := List.getElem?_eq_getElem (by omega)
        obtain ⟨_, ey1, ey2⟩ := kids_at hy
        have ep : (fun i : Nat => V.int (3 + (i : Nat) * (-1))) i = V.int ((3 - i : Nat) : Int) := congrArg V.int (by omega)
        rw [ep]
        have hr8 := t7 _ _ hra3
        have hrow8 := t7 _ _ hrow
        have em : (x.m : Int) - 2 = ((x.m - 2 : Nat) : Int) := by omega
        have atr : atI (bs.map V.ref) ((x.m : Int) - 2) = some (.ref rb) := by
          rw [em]
          exact atI_nat (by rw [List.getElem?_map, hrb]; rfl)
        have hadl := hx.len
        refine ⟨_, rfl, .inl ⟨rfl, _, SqL.of hw7⟩, ?_⟩
        refine ⟨_, rfl, _, rfl, _, _, _, rfl, rfl, by decide, fig_in4 (by omega), _, _, rfl, rfl, ?_, ?_⟩
        · show x.ad.toArray.size + 1 ≤ sizeLine
          exact sz_le (by simp; omega)
        rw [strOf_snoc]
        refine ⟨_, rfl, _, rfl, _, _, rfl, rfl, ra, _, _, _, rfl, rfl, SqT.of hr8, atr, _, rfl, rb, _, _, _, rfl, rfl, SqT.of hrow8, qat_at (by omega), two, fun u hu => ?_⟩
        have s9 := same_new hu (.tup [.str (strOf (x.ad ++ [48 + (3 - i)])), .int (qat R[x.m - 2] (3 - i) : Nat)])
        refine ⟨wa, _, _, rfl, rfl, s9 _ _ hw7, ?_, ?_⟩
        · rw [List.length_map, hts7.1, List.length_append, List.length_take]
          exact sz_lt (by omega)
        · have tp9 := ts_put (s9 _ _ hw7) (.lst (ts7.map V.ref ++ [.ref u]))
          refine ⟨same_mut (s7.trans s9) hwaH _, ts_trans (ts_trans t7 (ts_same s9)) tp9, ts7 ++ [u], _, ?_, ?_, ?_, ?_, rfl⟩
          · rw [upd_same, List.map_append]
            rfl
          · rw [take_snoc hy, ← List.append_assoc]
            refine (hts7.mono fun b y h => tp9 _ _ (s9 _ _ h)).snoc ?_
            refine tp9 _ _ ?_
            rw [upd_same, ey1, ey2]
          · rw [upd_ne nwf.symm]
            exact s9 _ _ hf7
          · exact hls7.mono fun b y h => tp9 _ _ (s9 _ _ h)
      · rintro σ H7 ⟨s7, t7, ts7, v8', hw7, hts7, hf7, hls7, rfl⟩
        have e4 : (kids x R[x.m - 2]).take 4 = kids x R[x.m - 2] := rfl
        rw [e4] at hts7
        have eW2 := ndsW_append R S' (kids x R[x.m - 2])
        refine ⟨_, ?_, S' ++ kids x R[x.m - 2], ts7, L, ls, _, _, _, rfl, s7, t7, hw7, hts7, ?_, by omega, hf7, hls7, ?_, rfl⟩
        · rw [ndsW_append, ndsW_append, eW]
          omega
        · intro y hy
          rcases List.mem_append.mp hy with hy | hy
          · exact hok' y hy
          · exact kok y hy
        · rw [List.reverse_append, List.flatMap_append, kl]
          exact hL
end
end QW
set_option Elab.async false
set_option linter.all false
set_option maxRecDepth 100000
set_option maxHeartbeats 4000000
/-! The walk, 8: ranks, first_rank, nearest. -/
namespace QW
open PySem PySem.Spec PyProof.Rows L2 QX QF
def rkD (b : Rk) : PyData := .tuple [.int b.far, .tuple [.int b.x, .int b.y]]
theorem rkD_toks (a : Rk) : PySem.W.keyToks (rkD a) = [.inl 1, .inl a.far, .inl 1, .inl 1, .inl a.x, .inl 1, .inl a.y, .inl 0, .inl 0] := by simp [rkD, PySem.W.keyToks, PySem.W.keyToksAll]
theorem rkD_lt (a b : Rk) : PySem.W.dataLt (rkD a) (rkD b) = decide (a.lt b) := by
  unfold PySem.W.dataLt
  rw [rkD_toks, rkD_toks]
  have L : ∀ (x y : Int) (r t : List (Int ⊕ List Nat)), PyProof.Rows.lexLt itemOrd (.inl x :: r) (.inl y :: t) = (decide (x < y) || (!decide (y < x) && PyProof.Rows.lexLt itemOrd r t)) := fun x y r t => lex_cons (O := itemOrd) _ _ r t
  rw [L, L, L, L, L, L, L, L, L]
  rw [Bool.eq_iff_iff, decide_eq_true_iff]
  unfold Rk.lt
  have e : PyProof.Rows.lexLt itemOrd ([] : List (Int ⊕ List Nat)) [] = false := rfl
  rw [e]
  simp only [Bool.or_eq_true, Bool.and_eq_true, Bool.not_eq_true', decide_eq_true_eq, decide_eq_false_iff_not, Bool.false_eq_true, and_false, or_false, Int.lt_irrefl, not_false_eq_true, true_and, false_or]
  omega
theorem rkD_alike (a b : Rk) : PySem.W.alike (rkD a) (rkD b) = true := by simp [rkD, PySem.W.alike, PySem.W.alikeAll]
theorem rkD_depth (a : Rk) : (rkD a).depth ≤ 32 := by simp [rkD, PyData.depth, PyData.depthAll]
theorem dp_rk {K : PySem.W.Frag} {H : Hp} {b : Addr} {a : Rk} (h : RkAt H b a) : Dp K H (.ref b) (rkD a) := by
  obtain ⟨t, h1, h2⟩ := h
  exact .tup (SqT.of h1) (.cons (.int _) (.cons (.tup (SqT.of h2) (.cons (.int _) (.cons (.int _) .nil))) .nil))
theorem RkAt.ts {H H' : Hp} (s : TS H H') {a : Addr} {b : Rk} (h : RkAt H a b) : RkAt H' a b := by
  obtain ⟨t, h1, h2⟩ := h
  exact ⟨t, s _ _ h1, s _ _ h2⟩
def lrk (row col : Int) (l : Lf) : Rk := rk row col l.r l.c l.s
def TrAt (row col : Int) (H : Hp) (b : Addr) (l : Lf) : Prop := ∃ t, H b = some (.tup [.ref t, .str (strOf l.ad), .bl l.full]) ∧ RkAt H t (lrk row col l)
theorem TrAt.ts {row col : Int} {H H' : Hp} (s : TS H H') {b : Addr} {l : Lf} (h : TrAt row col H b l) : TrAt row col H' b l := by
  obtain ⟨t, h1, h2⟩ := h
  exact ⟨t, s _ _ h1, h2.ts s⟩
theorem leaf_path {n tp : Nat} {R : List Qd} (hS : Shp n tp R) {l : Lf} (h : l ∈ lvg R n tp 0 0 []) : Figs n l.ad ∧ sqOf n l.ad = (l.r, l.c, l.s) := by
  obtain ⟨suf, e, h1, h2, h3⟩ := (lvg_in hS.gd n tp 0 0 [] (by have := hS.lt; omega) hS.dep l h).path
  rw [List.nil_append] at e
  rw [e]
  exact ⟨⟨h1, h2⟩, h3⟩
theorem take_filter {α : Type} {p : α → Bool} {l : List α} {i : Nat} {x : α} (h : l[i]? = some x) : (l.take (i + 1)).filter p = if p x = true then (l.take i).filter p ++ [x] else (l.take i).filter p := by
  rw [take_snoc h, List.filter_append]
  by_cases c : p x = true
  · rw [if_pos c, List.filter_cons_of_pos c]
    rfl
  · rw [if_neg c, List.filter_cons_of_neg c]
    simp
section
variable {P : Program} {w : World} {K : PySem.W.Frag} {mg : Str → Option Value} {base : Heap} {C : Addr}
def spRanks : Sp := fun vs H Q _ => ∃ (a : Addr) (n tp : Nat) (R : List Qd) (row col : Int), vs = [.ref a, .int row, .int col] ∧ TellAt H a n tp R ∧ Shp n tp R ∧
  ∀ b ls H', Same H H' → H' b = some (.lst (ls.map V.ref)) → Each (TrAt row col) H' ls (lvg R n tp 0 0 []) → Q (.ref b) H'
/-! ranks: slots 0 shape, 1 row, 2 column, 3 found, 4 leaf, 5 is_full -/
abbrev s_ranks : Stmt := top 36
theorem sc_ranks : FnScope ["shape", "row", "column", "found", "leaf", "is_full"] ["shape", "row", "column"] (defScope s_ranks) := ⟨rfl, rfl, rfl, by decide +kernel, rfl, by decide +kernel, by decide +kernel⟩
theorem c_ranks (T : Txt K mg C) : Cal P w K mg base 20 "ranks" spRanks := by
  have G_leaves_of := c_leaves_of (P := P) (w := w) (base := base) T
  have G_rank := c_rank (P := P) (w := w) (base := base) T
  have G_box_of := c_box_of (P := P) (w := w) (base := base) T
  refine T.d_ranks.cal sc_ranks (fun vs H Q E h => ?_) (fun f cdv A outer s H vs Q E hr h => ?_)
  · obtain ⟨a, n, tp, R, row, col, rfl, _⟩ := h
    rfl
  obtain ⟨a, n, tp, R, row, col, rfl, hT, hS, q⟩ := h
  have hlv := hS.lv
  have n12 := hS.n12
  have hlt := hS.lt
  have three : 3 ≤ sizeLine := by decide
  refine ⟨_, (pss_cons (ps_set (i := 3) sc_ranks.nd rfl (Or.inl rfl) (pe_lst pa_nil))
    (pss_cons (ps_for PassesOwn.never rfl (pi_list (pe_c G_leaves_of hr (by decide) (by rfl) (pa_cons (pv 0) pa_nil))) (pg_tup rfl (pgs_cons (pg_name (i := 4) sc_ranks.nd rfl (Or.inl rfl)) (pgs_cons (pg_name (i := 5) sc_ranks.nd rfl (Or.inl rfl)) pgs_nil)))
      (pss_one (ps_expr (pe_bm PySem.F.plainAttrs_list PySem.F.slot_list_append PySem.F.type_list_append mt_append (pv 3) (pa_cons (pe_tup (pa_cons (pe_c G_rank hr (by decide) (by rfl) (pa_cons (pe_c G_box_of hr (by decide) (by rfl) (pa_cons (pe_ix ix_tup (pv 0) pe_int (fun _ _ => rfl)) (pa_cons (pv 4) pa_nil))) (pa_cons (pv 1) (pa_cons (pv 2) pa_nil)))) (pa_cons (pv 4) (pa_cons (pv 5) pa_nil)))) pa_nil)))))
    (pss_one (ps_ret (pv 3))))), ?_⟩
  refine ⟨Nat.zero_le _, fun fo hfo => ?_⟩
  have s1 := same_new hfo (.lst [])
  refine ⟨_, rfl, a, n, tp, R, rfl, hT.same s1, hS, fun lb ls H2 s2 hlb hls => ?_⟩
  have hf2 := s2 _ _ (show (upd H fo (.lst [])) fo = some (.lst []) from upd_same)
  have s12 := s1.trans s2
  have lvl : (lvg R n tp 0 0 []).length ≤ 2000 := by rw [lvg_len hS.gd _ _ _ _ _ (by omega) hS.dep]; exact hlv
  have nlf : lb ≠ fo := fun z => by
    rw [z, hf2] at hlb
    have e := congrArg (fun o => match o with | some (HO.lst xs) => xs.length | _ => 0) hlb
    simp only [List.length_map, List.length_nil, hls.1] at e
    have := lvs_pos R tp hS.gd (by omega)
    rw [lvg_len hS.gd _ _ _ _ _ (by omega) hS.dep] at e
    omega
  refine ⟨lb, rfl, ⟨_, SqL.of hlb⟩, for_it (walk_list (xs := ls.map V.ref)) (fun i σ H' => Same H H' ∧ TS H2 H' ∧ H' lb = some (.lst (ls.map V.ref)) ∧ (∃ ts, H' fo = some (.lst (ts.map V.ref)) ∧ Each (TrAt row col) H' ts ((lvg R n tp 0 0 []).take i)) ∧ ∃ v4 v5, σ = [some (.ref a), some (.int row), some (.int col), some (.ref fo), v4, v5])
    ⟨s12, fun _ _ e => e, hlb, ⟨[], hf2, by rw [List.take_zero]; exact Each.nil⟩, none, none, rfl⟩ (fun _ _ _ _ ⟨_, _, h, _⟩ => SqL.of h) ?_ ?_⟩
  · rintro i x σ H3 H4 hi ⟨s3, t3, hl3, ⟨ts, hf3, hts⟩, v4, v5, rfl⟩ ⟨rfl, hx⟩
    obtain ⟨b, hb, rfl⟩ := refs_at hx
    obtain ⟨l, hl, hbl⟩ := hls.at hb
    obtain ⟨hfg, hsq⟩ := leaf_path hS (List.mem_of_getElem? hl)
    refine ⟨b, _, rfl, SqT.of (t3 _ _ hbl), rfl, _, _, rfl, _, _, rfl, rfl, ?_⟩
    obtain ⟨ra, bs, ha, hra, hR⟩ := hT.same s3
    refine ⟨_, rfl, .inl ⟨rfl, _, SqL.of hf3⟩, ?_⟩
    refine ⟨_, rfl, a, _, 0, _, rfl, rfl, SqT.of ha, rfl, _, rfl, n, l.ad, rfl, n12, hfg, fun p H5 s5 h5 => ?_⟩
    rw [hsq] at h5
    refine ⟨_, rfl, _, rfl, p, l.r, l.c, l.s, row, col, rfl, h5, fun t H6 s6 h6 => ?_⟩
    refine ⟨_, rfl, _, rfl, three, fun u hu => ?_⟩
    have s7 := same_then (s5.trans s6) hu (.tup [.ref t, .str (strOf l.ad), .bl l.full])
    have hf7 := s7 _ _ hf3
    refine ⟨fo, _, _, rfl, rfl, hf7, ?_, ?_⟩
    · rw [List.length_map, hts.1, List.length_take]
      exact sz_lt (by omega)
    · have tp7 := ts_put hf7 (.lst (ts.map V.ref ++ [.ref u]))
      have hfoH : H fo = none := hfo
      refine ⟨same_mut (s3.trans s7) hfoH _, ts_trans (ts_trans t3 (ts_same s7)) tp7, ?_, ⟨ts ++ [u], ?_, ?_⟩, _, _, rfl⟩
      · rw [upd_ne nlf]
        exact s7 _ _ hl3
      · rw [upd_same, List.map_append]
        rfl
      · rw [take_snoc hl]
        refine (hts.mono fun b y h => (h.ts (ts_same s7)).ts tp7).snoc ?_
        exact ⟨t, tp7 _ _ upd_same, (h6.same (same_new hu _)).ts tp7⟩
  · rintro σ H3 ⟨s3, t3, hl3, ⟨ts, hf3, hts⟩, v4, v5, rfl⟩
    rw [List.length_map, hls.1, List.take_length] at hts
    exact ⟨_, rfl, q fo ts H3 s3 hf3 hts⟩
def rkNo (row col : Int) (L : List Lf) (i : Nat) : Rk := match L[i]? with
  | some l => lrk row col l
  | none => ⟨0, 0, 0⟩
def RkOf (row col : Int) (H : Hp) (b : Addr) (l : Lf) : Prop := RkAt H b (lrk row col l)
def spFirstRank : Sp := fun vs H Q _ => ∃ (b : Addr) (ls : List Addr) (L : List Lf) (row col : Int), vs = [.ref b, .bl true] ∧ H b = some (.lst (ls.map V.ref)) ∧ Each (TrAt row col) H ls L ∧ L.length ≤ 2000 ∧
  ∀ H', Same H H' → ((∀ l ∈ L, l.full = false) → Q .non H') ∧ ∀ t l, l ∈ L → l.full = true → (∀ m ∈ L, m.full = true → ¬ (lrk row col m).lt (lrk row col l)) → RkAt H' t (lrk row col l) → Q (.ref t) H'
/-! first_rank: slots 0 told, 1 wanted, 2 own, 3 leaf, 4 is_full; cells wanted -/
abbrev s_first_rank : Stmt := top 37
theorem sc_first_rank : FnScope ["told", "wanted", "own", "leaf", "is_full"] ["told", "wanted"] (defScope s_first_rank) := ⟨rfl, rfl, rfl, by decide +kernel, rfl, by decide +kernel, by decide +kernel⟩
theorem c_first_rank (T : Txt K mg C) : Cal P w K mg base 1 "first_rank" spFirstRank := by
  refine T.d_first_rank.cal sc_first_rank (fun vs H Q E h => ?_) (fun f cdv A outer s H vs Q E hr h => ?_)
  · obtain ⟨b, ls, L, row, col, rfl, _⟩ := h
    rfl
  obtain ⟨b, ls, L, row, col, rfl, hb, hls, hL, q⟩ := h
  refine ⟨_, (pss_one (ps_ret (pe_callBK (cr_minD rfl hr.units) (by rfl) T.b_min (by decide +kernel) (pa_cons (pe_lc (own := [("own", 2), ("leaf", 3), ("is_full", 4)]) (g := gTup K 3 (gCons (gName 2) (gCons (gName 3) (gCons (gName 4) gNil)))) rfl sc_first_rank.nd (pi_list (pv 0)) (blkOk_by (N := ["told", "wanted", "own", "leaf", "is_full"]) (sc := defScope s_first_rank) (by decide +kernel)) (fun _ _ _ _ _ => (pg_tup rfl (pgs_cons (pg_name (i := 2) sc_first_rank.nd rfl (Or.inl rfl)) (pgs_cons (pg_name (i := 3) sc_first_rank.nd rfl (Or.inl rfl)) (pgs_cons (pg_name (i := 4) sc_first_rank.nd rfl (Or.inl rfl)) pgs_nil))))) (fun _ _ _ _ _ => pts_one (pt_cmpR op_eq (pv 4) (pv 1) (nomark _))) (fun _ _ _ _ _ => (pv 2))) pa_nil) (pk_cons pe_non pk_nil)))), ?_⟩
  refine ⟨_, rfl, b, rfl, ⟨_, SqL.of hb⟩, fun D hD => lc_it (walk_list (xs := ls.map V.ref)) (fun i H' => Same H H' ∧ ∃ us, H' D = some (.lst (us.map V.ref)) ∧ Each (RkOf row col) H' us ((L.take i).filter (·.full))) ⟨same_new hD _, [], upd_same, by rw [List.take_zero]; exact Each.nil⟩ (fun _ _ _ ⟨s1, _⟩ => SqL.of (s1 _ _ hb)) ?_ ?_⟩
  · rintro i x H1 H2 hi ⟨s1, us, h1, hus⟩ ⟨rfl, hx⟩
    obtain ⟨b', hb', rfl⟩ := refs_at hx
    obtain ⟨l, hl, t, hbl, hrk⟩ := hls.at hb'
    refine ⟨b', _, rfl, SqT.of (s1 _ _ hbl), rfl, _, _, rfl, _, _, rfl, _, _, rfl, rfl, rfl, ?_⟩
    refine ⟨_, rfl, _, rfl, rfl, _, rfl, ?_⟩
    rw [take_filter hl]
    cases hf : l.full with
    | false => exact iteF ⟨s1, us, h1, by rw [if_neg (by simp)]; exact hus⟩
    | true =>
      refine iteT ⟨_, rfl, _, h1, ?_, same_mut s1 hD _, us ++ [t], ?_, ?_⟩
      · rw [List.length_map, hus.1]
        refine sz_lt (Nat.lt_of_le_of_lt (List.length_filter_le _ _) ?_)
        rw [List.length_take]
        omega
      · rw [upd_same, List.map_append]
        rfl
      · rw [if_pos rfl]
        have tp := ts_put h1 (.lst (us.map V.ref ++ [.ref t]))
        exact (hus.mono fun b y h => RkAt.ts tp h).snoc ((hrk.same s1).ts tp)
  · rintro H1 ⟨s1, us, h1, hus⟩
    rw [List.length_map, hls.1, List.take_length] at hus
    obtain ⟨q0, q1⟩ := q H1 s1
    have rkS : ∀ {i : Nat} {l : Lf}, (L.filter (·.full))[i]? = some l → rkNo row col (L.filter (·.full)) i = lrk row col l := fun {i l} h => by unfold rkNo; rw [h]
    refine ⟨D, us.map V.ref, fun i j => decide ((rkNo row col (L.filter (·.full)) i).lt (rkNo row col (L.filter (·.full)) j)), rfl, rfl, SqL.of h1, ?_, ?_, ?_, ?_, ?_⟩
    · intro a b c e1 e2
      exact decide_eq_true (Rk.lt_trans (of_decide_eq_true e1) (of_decide_eq_true e2))
    · intro a
      refine decide_eq_false ?_
      unfold Rk.lt
      omega
    · intro i j x y ei ej
      obtain ⟨b1, hb1, rfl⟩ := refs_at ei
      obtain ⟨b2, hb2, rfl⟩ := refs_at ej
      obtain ⟨l1, hl1, hr1⟩ := hus.at hb1
      obtain ⟨l2, hl2, hr2⟩ := hus.at hb2
      refine ⟨_, _, dp_rk hr1, dp_rk hr2, rkD_alike _ _, by simp [rkD], rkD_depth _, ?_⟩
      rw [rkD_lt]
      dsimp only
      rw [rkS hl1, rkS hl2]
    · intro e
      refine q0 fun l hl => ?_
      have hn : (L.filter (·.full)).length = 0 := by rw [← hus.1]; simpa using e
      have hn' := List.length_eq_zero_iff.mp hn
      cases hf : l.full with
      | false => rfl
      | true =>
        have : l ∈ L.filter (·.full) := List.mem_filter.mpr ⟨hl, hf⟩
        rw [hn'] at this
        cases this
    · intro k x ek least
      obtain ⟨b1, hb1, rfl⟩ := refs_at ek
      obtain ⟨l1, hl1, hr1⟩ := hus.at hb1
      have hm := List.mem_filter.mp (List.mem_of_getElem? hl1)
      refine q1 b1 l1 hm.1 hm.2 (fun m hmL hmf => ?_) hr1
      obtain ⟨j, hj, ej⟩ := List.getElem_of_mem (List.mem_filter.mpr ⟨hmL, hmf⟩)
      have := least j (by rw [List.length_map, hus.1]; exact hj)
      dsimp only at this
      rw [rkS hl1, rkS (by rw [List.getElem?_eq_getElem hj, ej])] at this
      exact of_decide_eq_false this
/-- what nearest told -/
def NearAt (H : Hp) (p : Addr) (b : Rk) (xs : List Str) : Prop := ∃ c l, H p = some (.tup [.int b.far, .ref c, .ref l]) ∧ H c = some (.tup [.int b.x, .int b.y]) ∧ H l = some (.lst (xs.map V.str))
def spNearest : Sp := fun vs H Q _ => ∃ (a : Addr) (n tp : Nat) (R : List Qd) (row col : Int), vs = [.ref a, .int row, .int col] ∧ TellAt H a n tp R ∧ Shp n tp R ∧ 0 ≤ row ∧ row < (2 : Int) ^ n ∧ 0 ≤ col ∧ col < (2 : Int) ^ n ∧
  ∀ H', Same H H' → ((∀ l ∈ lvg R n tp 0 0 [], l.full = false) → Q .non H') ∧ ∀ p l, l ∈ lvg R n tp 0 0 [] → l.full = true → (∀ m ∈ lvg R n tp 0 0 [], m.full = true → ¬ (lrk row col m).lt (lrk row col l)) →
    NearAt H' p (lrk row col l) (((lvg R n tp 0 0 []).filter fun m => decide ((lrk row col m).lt (lrk row col l))).map fun m => strOf m.ad) → Q (.ref p) H'
/-! nearest: slots 0 shape, 1 row, 2 column, 3 told, 4 best, 5 far, 6 cell, 7 own, 8 leaf, 9 is_full; cells best -/
abbrev s_nearest : Stmt := top 38
theorem sc_nearest : FnScope ["shape", "row", "column", "told", "best", "far", "cell", "own", "leaf", "is_full"] ["shape", "row", "column"] (defScope s_nearest) := ⟨rfl, rfl, rfl, by decide +kernel, rfl, by decide +kernel, by decide +kernel⟩
theorem c_nearest (T : Txt K mg C) : Cal P w K mg base 21 "nearest" spNearest := by
  have G_want_shape := c_want_shape (P := P) (w := w) (base := base) T
  have G_want_cell := c_want_cell (P := P) (w := w) (base := base) T
  have G_ranks := c_ranks (P := P) (w := w) (base := base) T
  have G_first_rank := c_first_rank (P := P) (w := w) (base := base) T
  refine T.d_nearest.cal sc_nearest (fun vs H Q E h => ?_) (fun f cdv A outer s H vs Q E hr h => ?_)
  · obtain ⟨a, n, tp, R, row, col, rfl, _⟩ := h
    rfl
  obtain ⟨a, n, tp, R, row, col, rfl, hT, hS, r0, r1, c0, c1, q⟩ := h
  have hlv := hS.lv
  have n12 := hS.n12
  have hlt := hS.lt
  have three : 3 ≤ sizeLine := by decide
  have lvl : (lvg R n tp 0 0 []).length ≤ 2000 := by rw [lvg_len hS.gd _ _ _ _ _ (by omega) hS.dep]; exact hlv
  refine ⟨_, (pss_cons (ps_expr (pe_c G_want_shape hr (by decide) (by rfl) (pa_cons (pv 0) pa_nil)))
    (pss_cons (ps_expr (pe_c G_want_cell hr (by decide) (by rfl) (pa_cons (pe_ix ix_tup (pv 0) pe_int (fun _ _ => rfl)) (pa_cons (pv 1) (pa_cons (pv 2) pa_nil)))))
    (pss_cons (ps_set (i := 3) sc_nearest.nd rfl (Or.inl rfl) (pe_c G_ranks hr (by decide) (by rfl) (pa_cons (pv 0) (pa_cons (pv 1) (pa_cons (pv 2) pa_nil)))))
    (pss_cons (ps_set (i := 4) sc_nearest.nd rfl (Or.inr rfl) (pe_c G_first_rank hr (by decide) (by rfl) (pa_cons (pv 3) (pa_cons pe_bl pa_nil))))
    (pss_cons (ps_if (pt_cmpR op_isN (pv 4) pe_non (nomark _))
      (pss_one (ps_ret pe_non))
      pss_nil)
    (pss_cons (ps_asg (pv 4) (pg_tup rfl (pgs_cons (pg_name (i := 5) sc_nearest.nd rfl (Or.inl rfl)) (pgs_cons (pg_name (i := 6) sc_nearest.nd rfl (Or.inl rfl)) pgs_nil))))
    (pss_one (ps_ret (pe_tup (pa_cons (pv 5) (pa_cons (pv 6) (pa_cons (pe_callB (cr_sortX hr.units) (by rfl) T.b_sorted (by decide +kernel) (pa_cons (pe_lc (own := [("own", 7), ("leaf", 8), ("is_full", 9)]) (g := gTup K 3 (gCons (gName 7) (gCons (gName 8) (gCons (gName 9) gNil)))) (tt := tTest (tOp (rLtD K) (tVar 7) (tVar 4))) rfl sc_nearest.nd (pi_list (pv 3)) (blkOk_by (N := ["shape", "row", "column", "told", "best", "far", "cell", "own", "leaf", "is_full"]) (sc := defScope s_nearest) (by decide +kernel)) (fun _ _ _ _ _ => (pg_tup rfl (pgs_cons (pg_name (i := 7) sc_nearest.nd rfl (Or.inl rfl)) (pgs_cons (pg_name (i := 8) sc_nearest.nd rfl (Or.inl rfl)) (pgs_cons (pg_name (i := 9) sc_nearest.nd rfl (Or.inl rfl)) pgs_nil))))) (fun _ _ _ _ _ => pts_one (pt_cmpR (op_ltD hr.units) (pv 7) (pv 4) (nomark _))) (fun _ _ _ _ _ => (pv 8))) pa_nil)) pa_nil)))))))))))), ?_⟩
  refine ⟨_, rfl, a, n, tp, R, rfl, hT, hS, fun H1 s1 => ?_⟩
  obtain ⟨ra, bs, ha, hra, hR⟩ := hT.same s1
  refine ⟨_, rfl, a, _, 0, _, rfl, rfl, SqT.of ha, rfl, _, rfl, _, rfl, n, row, col, rfl, n12, r0, r1, c0, c1, ?_⟩
  refine ⟨_, rfl, _, rfl, _, rfl, a, n, tp, R, row, col, rfl, hT.same s1, hS, fun tb ts H2 s2 h2 hts => ?_⟩
  refine ⟨_, rfl, tb, ts, _, row, col, rfl, h2, hts, lvl, fun H3 s3 => ⟨fun none_ => ?_, fun t l hl hf least hrk => ?_⟩⟩
  · refine ⟨_, rfl, rfl, true, rfl, iteT ?_⟩
    exact (q H3 ((s1.trans s2).trans s3)).1 none_
  · have s03 := (s1.trans s2).trans s3
    refine ⟨_, rfl, rfl, false, rfl, iteF ?_⟩
    obtain ⟨c, hb1, hb2⟩ := id hrk
    refine ⟨_, rfl, t, _, rfl, SqT.of hb1, rfl, _, _, rfl, _, _, rfl, rfl, ?_⟩
    refine ⟨_, rfl, _, rfl, _, rfl, tb, rfl, ⟨_, SqL.of (s3 _ _ h2)⟩, fun D hD => ?_⟩
    refine lc_it (walk_list (xs := ts.map V.ref)) (fun i H' => Same H3 H' ∧ H' D = some (.lst (((((lvg R n tp 0 0 []).take i).filter fun m => decide ((lrk row col m).lt (lrk row col l))).map fun m => strOf m.ad).map V.str))) ⟨same_new hD _, by rw [List.take_zero]; exact upd_same⟩ (fun _ _ _ ⟨s4, _⟩ => SqL.of (s4 _ _ (s3 _ _ h2))) ?_ ?_
    · rintro i x H4 H5 hi ⟨s4, h4⟩ ⟨rfl, hx⟩
      obtain ⟨b', hb', rfl⟩ := refs_at hx
      obtain ⟨m, hm, t', hbm, hrk'⟩ := hts.at hb'
      have s34 := s3.trans s4
      refine ⟨b', _, rfl, SqT.of (s34 _ _ hbm), rfl, _, _, rfl, _, _, rfl, _, _, rfl, rfl, rfl, ?_⟩
      refine ⟨_, rfl, _, rfl, _, _, dp_rk (hrk'.same s34), dp_rk (hrk.same s4), rkD_alike _ _, by simp [rkD], rkD_depth _, _, rfl, ?_⟩
      rw [rkD_lt, take_filter hm]
      refine ite2 (fun cc => ?_) (fun cc => ?_)
      · refine ⟨_, rfl, _, h4, ?_, same_mut s4 hD _, ?_⟩
        · rw [List.length_map, List.length_map]
          refine sz_lt (Nat.lt_of_le_of_lt (List.length_filter_le _ _) ?_)
          rw [List.length_take]
          omega
        · rw [if_pos cc, upd_same, List.map_append, List.map_append]
          rfl
      · exact ⟨s4, by rw [if_neg cc]; exact h4⟩
    · rintro H4 ⟨s4, h4⟩
      rw [List.length_map, hts.1, List.take_length] at h4
      refine ⟨D, _, _, rfl, SqL.of h4, .refl _, ?_, fun u hu => ?_⟩
      · rw [List.pairwise_map]
        refine ((lvg_sorted hS.gd n tp 0 0 [] (by omega) hS.dep).filter _).imp fun {x y} h => ?_
        exact h
      · have s5 := same_then s4 hu (.lst (((((lvg R n tp 0 0 [])).filter fun m => decide ((lrk row col m).lt (lrk row col l))).map fun m => strOf m.ad).map V.str))
        refine ⟨three, fun p hp => ?_⟩
        have s6 := same_then s5 hp (.tup [.int (lrk row col l).far, .ref c, .ref u])
        refine (q _ (s03.trans s6)).2 p l hl hf least ⟨c, u, upd_same, s6 _ _ hb2, (same_new hp _) _ _ upd_same⟩
end
end QW
set_option Elab.async false
set_option linter.all false
set_option maxRecDepth 100000
set_option maxHeartbeats 4000000
/-! The walk, 9: the law's pots, digits, boxes. -/
namespace QW
open PySem PySem.Spec PyProof.Rows L2 QX QF
def PotAt (H : Hp) (p : Addr) : Prop := ∃ u v : Int, H p = some (.lst [.int u, .int v]) ∧ 0 ≤ u
def BoxAt (H : Hp) (b : Addr) (x : Bx) : Prop := H b = some (.tup [.int x.r, .int x.c, .int x.h, .int x.w])
theorem pow_pos' (n : Nat) : (1 : Int) * 2 ^ n = (2 : Int) ^ n := Int.one_mul _
theorem ts_but {H H' : Hp} {p : Addr} {xs : List V} (B : But [p] H H') (h : H p = some (.lst xs)) : TS H H' := fun b ys e => B _ _ (fun z => by rw [List.mem_singleton.mp z, h] at e; cases e) e
theorem ts_pot {H H' : Hp} {p : Addr} (B : But [p] H H') (h : PotAt H p) : TS H H' := by
  obtain ⟨u, v, e, _⟩ := h
  exact ts_but B e
theorem PotAt.same {H H' : Hp} {p : Addr} (s : Same H H') (h : PotAt H p) : PotAt H' p := by
  obtain ⟨u, v, e, h0⟩ := h
  exact ⟨u, v, s _ _ e, h0⟩
theorem sqL_same {H H' : Hp} {a : Addr} {xs : List V} {K : PySem.W.Frag} (s : Same H H') (h : SqL K H a xs) : SqL K H' a xs := by
  rcases h with h | h
  · rcases h with h | ⟨o, h⟩
    · exact .inl (.inl (s _ _ h))
    · exact .inl (.inr ⟨o, s _ _ h⟩)
  · exact .inr h
section
variable {P : Program} {w : World} {K : PySem.W.Frag} {mg : Str → Option Value} {base : Heap} {C : Addr}
def spPot (K : PySem.W.Frag) : Sp := fun vs H Q _ => ∃ (sc : Addr) (ns : List Int) (k : Nat), vs = [.ref sc, .int k] ∧ SqL K H sc (ns.map V.int) ∧ k ≤ 3 ∧ ns.length ≤ 1000 ∧ ∀ p H', H p = none → Same H H' → PotAt H' p → Q (.ref p) H'
/-! _law_pot: slots 0 _law_script, 1 _law_k, 2 _law_cell -/
abbrev s_L_pot : Stmt := top 40
theorem sc_L_pot : FnScope ["_law_script", "_law_k", "_law_cell"] ["_law_script", "_law_k"] (defScope s_L_pot) := ⟨rfl, rfl, rfl, by decide +kernel, rfl, by decide +kernel, by decide +kernel⟩
theorem c_L_pot (T : Txt K mg C) : Cal P w K mg base 1 "_law_pot" (spPot K) := by
  refine T.d_L_pot.cal sc_L_pot (fun vs H Q E h => ?_) (fun f cdv A outer s H vs Q E hr h => ?_)
  · obtain ⟨sc, ns, k, rfl, _⟩ := h
    rfl
  obtain ⟨sc, ns, k, rfl, hsc, hk, hns, q⟩ := h
  refine ⟨_, (pss_cons (ps_set (i := 2) sc_L_pot.nd rfl (Or.inl rfl) pe_int)
    (pss_cons (ps_if (pt_cmpR op_lt (pv 1) (pe_callB call_len_seq (by rfl) T.b_len (by decide +kernel) (pa_cons (pv 0) pa_nil)) (nomark _))
      (pss_one (ps_set (i := 2) sc_L_pot.nd rfl (Or.inl rfl) (pe_ix ix_list (pv 0) (pv 1) (fun _ _ => rfl))))
      pss_nil)
    (pss_one (ps_ret (pe_lst (pa_cons (pe_callB (call_mx2 rfl) (by rfl) T.b_max (by decide +kernel) (pa_cons pe_int (pa_cons (pe_op op_sub (pe_callB call_ab (by rfl) T.b_abs (by decide +kernel) (pa_cons (pv 2) pa_nil)) (pe_op op_pow pe_int pe_int)) pa_nil))) (pa_cons (pe_op op_add (pe_op op_add (pe_op op_mod (pe_callB call_ab (by rfl) T.b_abs (by decide +kernel) (pa_cons (pv 2) pa_nil)) pe_int) (pe_op op_mul pe_int (pv 1))) pe_int) pa_nil))))))), ?_⟩
  have two : 2 ≤ sizeLine := by decide
  have fin_ : ∀ (z : Int) (p : Addr), H p = none → PotAt (upd H p (.lst [.int (max 0 (absI z - 10 ^ (18 : Int).toNat)), .int (absI z % 2147483629 + 97 * (k : Int) + 1)])) p := fun z p hp => ⟨_, _, upd_same, by omega⟩
  refine ⟨_, rfl, _, rfl, sc, _, rfl, .inl hsc, _, _, rfl, rfl, _, rfl, ite2 (fun c => ?_) (fun c => ?_)⟩
  · have c' : (k : Int) < ((ns.map V.int).length : Int) := of_decide_eq_true c
    rw [List.length_map] at c'
    have hi : k < ns.length := by omega
    refine ⟨_, rfl, _, rfl, sc, _, _, _, rfl, rfl, hsc, atI_nat (by rw [List.getElem?_map, List.getElem?_eq_getElem hi]; rfl), ?_⟩
    refine ⟨_, rfl, _, rfl, _, _, rfl, rfl, ⟨by decide, by decide, by decide⟩, _, _, rfl, rfl, _, _, rfl, _, rfl, _, rfl, _, _, rfl, rfl, (by show (0 : Int) < 2147483629; decide), _, rfl, _, _, rfl, rfl, .inl (by decide), _, _, rfl, rfl, _, _, rfl, rfl, two, fun p hp => ?_⟩
    exact q p _ hp (same_new hp _) (fin_ _ p hp)
  · refine ⟨_, rfl, _, rfl, _, _, rfl, rfl, ⟨by decide, by decide, by decide⟩, _, _, rfl, rfl, _, _, rfl, _, rfl, _, rfl, _, _, rfl, rfl, (by show (0 : Int) < 2147483629; decide), _, rfl, _, _, rfl, rfl, .inl (by decide), _, _, rfl, rfl, _, _, rfl, rfl, two, fun p hp => ?_⟩
    exact q p _ hp (same_new hp _) (fin_ _ p hp)
def spDigit : Sp := fun vs H Q _ => ∃ (p : Addr) (m : Int), vs = [.ref p, .int m] ∧ PotAt H p ∧ 0 < m ∧ m < 1073741824 ∧ ∀ d H', But [p] H H' → PotAt H' p → 0 ≤ d → d < m → Q (.int d) H'
/-! _law_digit: slots 0 _law_pot_here, 1 _law_many, 2 _law_digit_here -/
abbrev s_L_digit : Stmt := top 41
theorem sc_L_digit : FnScope ["_law_pot_here", "_law_many", "_law_digit_here"] ["_law_pot_here", "_law_many"] (defScope s_L_digit) := ⟨rfl, rfl, rfl, by decide +kernel, rfl, by decide +kernel, by decide +kernel⟩
theorem c_L_digit (T : Txt K mg C) : Cal P w K mg base 1 "_law_digit" spDigit := by
  refine T.d_L_digit.cal sc_L_digit (fun vs H Q E h => ?_) (fun f cdv A outer s H vs Q E hr h => ?_)
  · obtain ⟨p, m, rfl, _⟩ := h
    rfl
  obtain ⟨p, m, rfl, ⟨u, v, hp, hu⟩, m0, m1, q⟩ := h
  refine ⟨_, (pss_cons (ps_if (pt_cmpR op_gt (pe_ix ix_list (pv 0) pe_int (fun _ _ => rfl)) pe_int (nomark _))
      (pss_cons (ps_set (i := 2) sc_L_digit.nd rfl (Or.inl rfl) (pe_op op_mod (pe_ix ix_list (pv 0) pe_int (fun _ _ => rfl)) (pv 1)))
      (pss_cons (ps_asg (pe_op op_fdiv (pe_ix ix_list (pv 0) pe_int (fun _ _ => rfl)) (pv 1)) (pg_sub (pv 0) pe_int set_list))
      (pss_one (ps_ret (pv 2)))))
      pss_nil)
    (pss_cons (ps_asg (pe_op op_mod (pe_op op_add (pe_op op_mul (pe_ix ix_list (pv 0) pe_int (fun _ _ => rfl)) pe_int) pe_int) pe_int) (pg_sub (pv 0) pe_int set_list))
    (pss_one (ps_ret (pe_op op_mod (pe_op op_fdiv (pe_ix ix_list (pv 0) pe_int (fun _ _ => rfl)) pe_int) (pv 1)))))), ?_⟩
  refine ⟨_, rfl, p, _, 0, _, rfl, rfl, SqL.of hp, rfl, _, _, rfl, rfl, _, rfl, ite2 (fun c => ?_) (fun c => ?_)⟩
  · refine ⟨_, rfl, p, _, 0, _, rfl, rfl, SqL.of hp, rfl, _, rfl, _, _, rfl, rfl, m0, ?_⟩
    refine ⟨_, rfl, p, _, 0, _, rfl, rfl, SqL.of hp, rfl, _, rfl, _, _, rfl, rfl, ⟨m0, m1⟩, _, rfl, p, _, 0, 0, rfl, rfl, hp, rfl, ?_⟩
    refine ⟨_, rfl, q _ _ ((But.of (Same.refl _)).put (List.mem_singleton.mpr rfl) _) ⟨_, _, upd_same, Int.ediv_nonneg hu (by omega)⟩ (Int.emod_nonneg _ (by omega)) (Int.emod_lt_of_pos _ m0)⟩
  · refine ⟨_, rfl, p, _, 1, _, rfl, rfl, SqL.of hp, rfl, _, _, rfl, rfl, .inr (by decide), _, _, rfl, rfl, _, _, rfl, rfl, (by show (0 : Int) < 2147483629; decide), _, rfl, p, _, 1, 1, rfl, rfl, hp, rfl, ?_⟩
    refine ⟨_, rfl, p, _, 1, _, rfl, rfl, SqL.of upd_same, rfl, _, _, rfl, rfl, ⟨by decide, by decide⟩, _, rfl, _, _, rfl, rfl, m0, ?_⟩
    exact q _ _ ((But.of (Same.refl _)).put (List.mem_singleton.mpr rfl) _) ⟨_, _, upd_same, hu⟩ (Int.emod_nonneg _ (by omega)) (Int.emod_lt_of_pos _ m0)
def spBox : Sp := fun vs H Q _ => ∃ (p : Addr) (n : Nat), vs = [.ref p, .int n, .int 9] ∧ PotAt H p ∧ n ≤ 12 ∧ ∀ b x H', But [p] H H' → PotAt H' p → BoxAt H' b x → BxOk x → Q (.ref b) H'
/-! _law_box: slots 0 _law_pot_here, 1 _law_n, 2 _law_most, 3 _law_side, 4 _law_size, 5 _law_row, 6 _law_column, 7 _law_high, 8 _law_wide -/
abbrev s_L_box : Stmt := top 43
theorem sc_L_box : FnScope ["_law_pot_here", "_law_n", "_law_most", "_law_side", "_law_size", "_law_row", "_law_column", "_law_high", "_law_wide"] ["_law_pot_here", "_law_n", "_law_most"] (defScope s_L_box) := ⟨rfl, rfl, rfl, by decide +kernel, rfl, by decide +kernel, by decide +kernel⟩
theorem c_L_box (T : Txt K mg C) : Cal P w K mg base 2 "_law_box" spBox := by
  have G_L_digit := c_L_digit (P := P) (w := w) (base := base) T
  refine T.d_L_box.cal sc_L_box (fun vs H Q E h => ?_) (fun f cdv A outer s H vs Q E hr h => ?_)
  · obtain ⟨p, n, rfl, _⟩ := h
    rfl
  obtain ⟨p, n, rfl, hp, n12, q⟩ := h
  have four' : 4 ≤ sizeLine := by decide
  have c1 : ∀ k : Nat, k ≤ 12 → CPow 1 (k : Int) := fun k hk => ⟨by omega, by omega, by decide⟩
  have pw : ∀ k : Nat, k ≤ 12 → (0 : Int) < 1 * 2 ^ ((k : Nat) : Int).toNat ∧ (1 : Int) * 2 ^ ((k : Nat) : Int).toNat < 1073741824 := by decide
  obtain ⟨pn1, pn2⟩ := pw n n12
  refine ⟨_, (pss_cons (ps_set (i := 3) sc_L_box.nd rfl (Or.inl rfl) (pe_op op_shl pe_int (pv 1)))
    (pss_cons (ps_if (pt_cmpR op_eq (pe_c G_L_digit hr (by decide) (by rfl) (pa_cons (pv 0) (pa_cons pe_int pa_nil))) pe_int (nomark _))
      (pss_cons (ps_set (i := 4) sc_L_box.nd rfl (Or.inl rfl) (pe_c G_L_digit hr (by decide) (by rfl) (pa_cons (pv 0) (pa_cons (pe_op op_add (pv 1) pe_int) pa_nil))))
      (pss_cons (ps_set (i := 5) sc_L_box.nd rfl (Or.inl rfl) (pe_op op_mul (pe_c G_L_digit hr (by decide) (by rfl) (pa_cons (pv 0) (pa_cons (pe_op op_shl pe_int (pe_op op_sub (pv 1) (pv 4))) pa_nil))) (pe_op op_shl pe_int (pv 4))))
      (pss_cons (ps_set (i := 6) sc_L_box.nd rfl (Or.inl rfl) (pe_op op_mul (pe_c G_L_digit hr (by decide) (by rfl) (pa_cons (pv 0) (pa_cons (pe_op op_shl pe_int (pe_op op_sub (pv 1) (pv 4))) pa_nil))) (pe_op op_shl pe_int (pv 4))))
      (pss_one (ps_ret (pe_tup (pa_cons (pv 5) (pa_cons (pv 6) (pa_cons (pe_op op_shl pe_int (pv 4)) (pa_cons (pe_op op_shl pe_int (pv 4)) pa_nil))))))))))
      pss_nil)
    (pss_cons (ps_set (i := 5) sc_L_box.nd rfl (Or.inl rfl) (pe_c G_L_digit hr (by decide) (by rfl) (pa_cons (pv 0) (pa_cons (pv 3) pa_nil))))
    (pss_cons (ps_set (i := 6) sc_L_box.nd rfl (Or.inl rfl) (pe_c G_L_digit hr (by decide) (by rfl) (pa_cons (pv 0) (pa_cons (pv 3) pa_nil))))
    (pss_cons (ps_set (i := 7) sc_L_box.nd rfl (Or.inl rfl) (pe_op op_add pe_int (pe_c G_L_digit hr (by decide) (by rfl) (pa_cons (pv 0) (pa_cons (pe_callB (call_mn2 rfl) (by rfl) T.b_min (by decide +kernel) (pa_cons (pv 2) (pa_cons (pe_op op_sub (pv 3) (pv 5)) pa_nil))) pa_nil)))))
    (pss_cons (ps_set (i := 8) sc_L_box.nd rfl (Or.inl rfl) (pe_op op_add pe_int (pe_c G_L_digit hr (by decide) (by rfl) (pa_cons (pv 0) (pa_cons (pe_callB (call_mn2 rfl) (by rfl) T.b_min (by decide +kernel) (pa_cons (pv 2) (pa_cons (pe_op op_sub (pv 3) (pv 6)) pa_nil))) pa_nil)))))
    (pss_one (ps_ret (pe_tup (pa_cons (pv 5) (pa_cons (pv 6) (pa_cons (pv 7) (pa_cons (pv 8) pa_nil))))))))))))), ?_⟩
  refine ⟨_, rfl, _, _, rfl, rfl, c1 n n12, ?_⟩
  refine ⟨_, rfl, p, 2, rfl, hp, by decide, by decide, fun d H1 B1 p1 d0 d1 => ?_⟩
  refine ⟨rfl, _, rfl, ite2 (fun c => ?_) (fun c => ?_)⟩
  · refine ⟨_, rfl, _, rfl, _, _, rfl, rfl, p, _, rfl, p1, by omega, by omega, fun s H2 B2 p2 s0 s1 => ?_⟩
    obtain ⟨s, rfl⟩ : ∃ k : Nat, s = (k : Int) := ⟨s.toNat, by omega⟩
    have hs : s ≤ n := by omega
    have es : (n : Int) - (s : Int) = ((n - s : Nat) : Int) := by omega
    obtain ⟨pm1, pm2⟩ := pw (n - s) (by omega)
    have ps := pow_le_4096 (n := s) (by omega)
    have ps0 := two_pow_pos s
    have cs : ∀ z, CMul z (1 * 2 ^ ((s : Nat) : Int).toNat) := fun z => .inr (by
      rw [pow_pos', Int.toNat_natCast]
      exact ⟨by omega, by omega⟩)
    refine ⟨_, rfl, _, rfl, _, rfl, _, _, rfl, rfl, _, _, rfl, rfl, by rw [es]; exact c1 _ (by omega), p, _, rfl, p2, by rw [es]; exact pm1, by rw [es]; exact pm2, fun x H3 B3 p3 x0 x1 => ?_⟩
    refine ⟨_, rfl, _, _, rfl, rfl, c1 _ (by omega), _, _, rfl, rfl, cs _, ?_⟩
    refine ⟨_, rfl, _, rfl, _, rfl, _, _, rfl, rfl, _, _, rfl, rfl, by rw [es]; exact c1 _ (by omega), p, _, rfl, p3, by rw [es]; exact pm1, by rw [es]; exact pm2, fun y H4 B4 p4 y0 y1 => ?_⟩
    refine ⟨_, rfl, _, _, rfl, rfl, c1 _ (by omega), _, _, rfl, rfl, cs _, ?_⟩
    refine ⟨_, rfl, _, rfl, _, rfl, _, _, rfl, rfl, c1 _ (by omega), _, rfl, _, _, rfl, rfl, c1 _ (by omega), four', fun b hb => ?_⟩
    refine q b ⟨x * (1 * 2 ^ ((s : Nat) : Int).toNat), y * (1 * 2 ^ ((s : Nat) : Int).toNat), 1 * 2 ^ ((s : Nat) : Int).toNat, 1 * 2 ^ ((s : Nat) : Int).toNat⟩ _ ((((B1.trans B2).trans B3).trans B4).trans (.of (same_new hb _))) (p4.same (same_new hb _)) upd_same (.inl ⟨s, x, y, ?_, ?_, ?_, ?_⟩) <;> (rw [pow_pos', Int.toNat_natCast])
  · refine ⟨_, rfl, _, rfl, p, _, rfl, p1, pn1, pn2, fun x H2 B2 p2 x0 x1 => ?_⟩
    refine ⟨_, rfl, _, rfl, p, _, rfl, p2, pn1, pn2, fun y H3 B3 p3 y0 y1 => ?_⟩
    refine ⟨_, rfl, _, rfl, _, rfl, _, rfl, _, _, rfl, rfl, _, _, rfl, p, _, rfl, p3, by omega, by omega, fun h H4 B4 p4 h0 h1 => ?_⟩
    refine ⟨_, _, rfl, rfl, ?_⟩
    refine ⟨_, rfl, _, rfl, _, rfl, _, rfl, _, _, rfl, rfl, _, _, rfl, p, _, rfl, p4, by omega, by omega, fun z H5 B5 p5 z0 z1 => ?_⟩
    refine ⟨_, _, rfl, rfl, ?_⟩
    refine ⟨_, rfl, _, rfl, _, rfl, _, rfl, four', fun b hb => ?_⟩
    exact q b ⟨x, y, 1 + h, 1 + z⟩ _ (((((B1.trans B2).trans B3).trans B4).trans B5).trans (.of (same_new hb _))) (p5.same (same_new hb _)) upd_same (.inr ⟨by show (0 : Int) ≤ 1 + h; omega, by show 1 + h ≤ 9; omega, by show 0 ≤ 1 + z; omega, by show 1 + z ≤ 9; omega⟩)
def spBoxes : Sp := fun vs H Q _ => ∃ (p : Addr) (n : Nat), vs = [.ref p, .int n] ∧ PotAt H p ∧ 4 ≤ n ∧ n ≤ 12 ∧ ∀ a bs xs H', a ≠ p → But [p] H H' → PotAt H' p → H' a = some (.lst (bs.map V.ref)) → Each BoxAt H' bs xs → xs.length ≤ 5 → (∀ x ∈ xs, BxOk x) → Q (.ref a) H'
/-! _law_boxes: slots 0 _law_pot_here, 1 _law_n, 2 _law_k; cells _law_n, _law_pot_here -/
abbrev s_L_boxes : Stmt := top 44
theorem sc_L_boxes : FnScope ["_law_pot_here", "_law_n", "_law_k"] ["_law_pot_here", "_law_n"] (defScope s_L_boxes) := ⟨rfl, rfl, rfl, by decide +kernel, rfl, by decide +kernel, by decide +kernel⟩
theorem c_L_boxes (T : Txt K mg C) : Cal P w K mg base 3 "_law_boxes" spBoxes := by
  have G_L_digit := c_L_digit (P := P) (w := w) (base := base) T
  have G_L_box := c_L_box (P := P) (w := w) (base := base) T
  refine T.d_L_boxes.cal sc_L_boxes (fun vs H Q E h => ?_) (fun f cdv A outer s H vs Q E hr h => ?_)
  · obtain ⟨p, n, rfl, _⟩ := h
    rfl
  obtain ⟨p, n, rfl, hp, n4, n12, q⟩ := h
  refine ⟨_, (pss_cons (ps_if (PW.pt (pw_and (pt_cmpR op_lt (pv 1) pe_int (nomark _)) (pw_and1 (pt_cmpR op_eq (pe_c G_L_digit hr (by decide) (by rfl) (pa_cons (pv 0) (pa_cons pe_int pa_nil))) pe_int (nomark _)))))
      pss_never
      pss_nil)
    (pss_one (ps_ret (pe_lc (own := [("_law_k", 2)]) (g := gName 2) rfl sc_L_boxes.nd (pi_range1 (by rfl) T.b_range (pa_cons (pe_c G_L_digit hr (by decide) (by rfl) (pa_cons (pv 0) (pa_cons pe_int pa_nil))) pa_nil)) (blkOk_by (N := ["_law_pot_here", "_law_n", "_law_k"]) (sc := defScope s_L_boxes) (by decide +kernel)) (fun _ _ _ _ _ => (pg_name (i := 2) sc_L_boxes.nd rfl (Or.inl rfl))) (fun _ _ _ _ _ => pts_nil) (fun _ _ _ _ _ => (pe_c G_L_box hr (by decide) (by rfl) (pa_cons (pv 0) (pa_cons (pv 1) (pa_cons pe_int pa_nil))))))))), ?_⟩
  refine ⟨_, rfl, _, _, rfl, rfl, _, rfl, ite2 (fun c => absurd (of_decide_eq_true c) (by omega)) (fun _ => ?_)⟩
  refine ⟨_, rfl, p, 6, rfl, hp, by decide, by decide, fun d H1 B1 p1 d0 d1 => ?_⟩
  obtain ⟨d, rfl⟩ : ∃ k : Nat, d = (k : Int) := ⟨d.toNat, by omega⟩
  refine ⟨_, rfl, by omega, by omega, fun D hD => ?_⟩
  have ex1 : ∃ o, H1 p = some o := by
    obtain ⟨u, v, e, _⟩ := p1
    exact ⟨_, e⟩
  have neD : p ≠ D := by
    obtain ⟨o, e⟩ := ex1
    exact ne_of_none e hD
  have potD : ∀ {H' : Hp} (o : HO), PotAt H' p → PotAt (upd H' D o) p := fun o ⟨u, v, e, h⟩ => ⟨u, v, by rw [upd_ne neD]; exact e, h⟩
  refine lc_it walk_range (fun i H' => But [p] H1 H' ∧ PotAt H' p ∧ ∃ bs xs, H' D = some (.lst (bs.map V.ref)) ∧ Each BoxAt H' bs xs ∧ xs.length = i ∧ ∀ x ∈ xs, BxOk x)
    ⟨(But.of (Same.refl _)).fresh hD _, potD _ p1, [], [], upd_same, Each.nil, rfl, by simp⟩ (fun _ _ _ _ => trivial) ?_ ?_
  · rintro i x H2 H3 hi ⟨B2, p2, bs, xs, h2, hbs, hxl, hok⟩ ⟨rfl, rfl⟩
    refine ⟨rfl, _, rfl, _, rfl, p, n, rfl, p2, n12, fun b y H4 B4 p4 hb hy => ?_⟩
    have h4 := B4 _ _ (by simp [neD.symm]) h2
    refine ⟨_, h4, ?_, (B2.trans B4).fresh hD _, potD _ p4, bs ++ [b], xs ++ [y], ?_, ?_, by simp [hxl], ?_⟩
    · rw [List.length_map, hbs.1]
      exact sz_lt (by omega)
    · rw [upd_same, List.map_append]
      rfl
    · have t4 := ts_pot B4 p2
      have tp := ts_put h4 (.lst (bs.map V.ref ++ [.ref b]))
      exact (hbs.mono fun b y h => tp _ _ (t4 _ _ h)).snoc (tp _ _ hb)
    · intro z hz
      rcases List.mem_append.mp hz with hz | hz
      · exact hok z hz
      · rw [List.mem_singleton.mp hz]
        exact hy
  · rintro H2 ⟨B2, p2, bs, xs, h2, hbs, hxl, hok⟩
    exact q D bs xs H2 neD.symm (B1.trans B2) p2 h2 hbs (by omega) hok
def spMeets : Sp := fun vs H Q _ => ∃ (b : Addr) (x : Bx) (r c s : Int), vs = [.ref b, .int r, .int c, .int s] ∧ BoxAt H b x ∧ Q (.bl (meets x r c s)) H
/-! _law_meets: slots 0 _law_box_here, 1 _law_row, 2 _law_column, 3 _law_side -/
abbrev s_L_meets : Stmt := top 45
theorem sc_L_meets : FnScope ["_law_box_here", "_law_row", "_law_column", "_law_side"] ["_law_box_here", "_law_row", "_law_column", "_law_side"] (defScope s_L_meets) := ⟨rfl, rfl, rfl, by decide +kernel, rfl, by decide +kernel, by decide +kernel⟩
theorem c_L_meets (T : Txt K mg C) : Cal P w K mg base 1 "_law_meets" spMeets := by
  refine T.d_L_meets.cal sc_L_meets (fun vs H Q E h => ?_) (fun f cdv A outer s H vs Q E hr h => ?_)
  · obtain ⟨b, x, r, c, s, rfl, _⟩ := h
    rfl
  obtain ⟨b, x, r, c, s, rfl, hb, q⟩ := h
  refine ⟨_, (pss_cons (ps_if (PW.pt (pw_or (pt_cmpR op_le (pe_op op_add (pv 1) (pv 3)) (pe_ix ix_tup (pv 0) pe_int (fun _ _ => rfl)) (nomark _)) (pw_or1 (pt_cmpR op_le (pe_op op_add (pe_ix ix_tup (pv 0) pe_int (fun _ _ => rfl)) (pe_ix ix_tup (pv 0) pe_int (fun _ _ => rfl))) (pv 1) (nomark _)))))
      (pss_one (ps_ret pe_bl))
      pss_nil)
    (pss_one (ps_ret (pe_and (pe_cmpR op_lt (pv 2) (pe_op op_add (pe_ix ix_tup (pv 0) pe_int (fun _ _ => rfl)) (pe_ix ix_tup (pv 0) pe_int (fun _ _ => rfl))) (nomark _)) (pe_one (pe_cmpR op_lt (pe_ix ix_tup (pv 0) pe_int (fun _ _ => rfl)) (pe_op op_add (pv 2) (pv 3)) (nomark _))))))), ?_⟩
  have no : ¬ (x.r < r + s ∧ r < x.r + x.h) → meets x r c s = false := fun h => by
    cases e : meets x r c s with
    | false => rfl
    | true => exact absurd ((meets_iff.mp e).imp_right fun z => z.1) h
  refine ⟨_, rfl, _, rfl, _, _, rfl, rfl, _, rfl, b, _, 0, _, rfl, rfl, SqT.of hb, rfl, _, _, rfl, rfl, _, rfl, ite2 (fun c1 => ?_) (fun c1 => ?_)⟩
  · have c1' : r + s ≤ x.r := of_decide_eq_true c1
    refine iteT ?_
    rw [no (by omega)] at q
    exact q
  · have c1' : ¬ r + s ≤ x.r := fun z => c1 (decide_eq_true z)
    refine ⟨_, rfl, b, _, 0, _, rfl, rfl, SqT.of hb, rfl, _, rfl, b, _, 2, _, rfl, rfl, SqT.of hb, rfl, _, _, rfl, rfl, _, rfl, _, _, rfl, rfl, _, rfl, ite2 (fun c2 => ?_) (fun c2 => ?_)⟩
    · have c2' : x.r + x.h ≤ r := of_decide_eq_true c2
      rw [no (by omega)] at q
      exact q
    · have c2' : ¬ x.r + x.h ≤ r := fun z => c2 (decide_eq_true z)
      refine ⟨_, rfl, _, rfl, b, _, 1, _, rfl, rfl, SqT.of hb, rfl, _, rfl, b, _, 3, _, rfl, rfl, SqT.of hb, rfl, _, _, rfl, rfl, _, _, rfl, rfl, _, rfl, ite2 (fun c3 => ?_) (fun c3 => ?_)⟩
      · have c3' : c < x.c + x.w := of_decide_eq_true c3
        refine ⟨_, rfl, b, _, 1, _, rfl, rfl, SqT.of hb, rfl, _, rfl, _, rfl, _, _, rfl, rfl, _, _, rfl, rfl, ?_⟩
        have e : meets x r c s = decide (x.c < c + s) := by
          rw [Bool.eq_iff_iff, meets_iff, decide_eq_true_iff]
          omega
        rw [e] at q
        exact q
      · have c3' : ¬ c < x.c + x.w := fun z => c3 (decide_eq_true z)
        have e : meets x r c s = false := by
          cases e : meets x r c s with
          | false => rfl
          | true => exact absurd (meets_iff.mp e).2.2.1 c3'
        rw [e] at q
        exact q
def spHas : Sp := fun vs H Q _ => ∃ (b : Addr) (x : Bx) (r c s : Int), vs = [.ref b, .int r, .int c, .int s] ∧ BoxAt H b x ∧ Q (.bl (has x r c s)) H
/-! _law_has: slots 0 _law_box_here, 1 _law_row, 2 _law_column, 3 _law_side -/
abbrev s_L_has : Stmt := top 46
theorem sc_L_has : FnScope ["_law_box_here", "_law_row", "_law_column", "_law_side"] ["_law_box_here", "_law_row", "_law_column", "_law_side"] (defScope s_L_has) := ⟨rfl, rfl, rfl, by decide +kernel, rfl, by decide +kernel, by decide +kernel⟩
theorem c_L_has (T : Txt K mg C) : Cal P w K mg base 1 "_law_has" spHas := by
  refine T.d_L_has.cal sc_L_has (fun vs H Q E h => ?_) (fun f cdv A outer s H vs Q E hr h => ?_)
  · obtain ⟨b, x, r, c, s, rfl, _⟩ := h
    rfl
  obtain ⟨b, x, r, c, s, rfl, hb, q⟩ := h
  refine ⟨_, (pss_cons (ps_if (PW.pt (pw_or (pt_cmpR op_lt (pv 1) (pe_ix ix_tup (pv 0) pe_int (fun _ _ => rfl)) (nomark _)) (pw_or1 (pt_cmpR op_lt (pe_op op_add (pe_ix ix_tup (pv 0) pe_int (fun _ _ => rfl)) (pe_ix ix_tup (pv 0) pe_int (fun _ _ => rfl))) (pe_op op_add (pv 1) (pv 3)) (nomark _)))))
      (pss_one (ps_ret pe_bl))
      pss_nil)
    (pss_one (ps_ret (pe_and (pe_cmpR op_le (pe_ix ix_tup (pv 0) pe_int (fun _ _ => rfl)) (pv 2) (nomark _)) (pe_one (pe_cmpR op_le (pe_op op_add (pv 2) (pv 3)) (pe_op op_add (pe_ix ix_tup (pv 0) pe_int (fun _ _ => rfl)) (pe_ix ix_tup (pv 0) pe_int (fun _ _ => rfl))) (nomark _))))))), ?_⟩
  have no : ¬ (x.r ≤ r ∧ r + s ≤ x.r + x.h) → has x r c s = false := fun h => by
    cases e : has x r c s with
    | false => rfl
    | true => exact absurd ((has_iff.mp e).imp_right fun z => z.1) h
  refine ⟨_, rfl, _, rfl, b, _, 0, _, rfl, rfl, SqT.of hb, rfl, _, _, rfl, rfl, _, rfl, ite2 (fun c1 => ?_) (fun c1 => ?_)⟩
  · have c1' : r < x.r := of_decide_eq_true c1
    refine iteT ?_
    rw [no (by omega)] at q
    exact q
  · have c1' : ¬ r < x.r := fun z => c1 (decide_eq_true z)
    refine ⟨_, rfl, b, _, 0, _, rfl, rfl, SqT.of hb, rfl, _, rfl, b, _, 2, _, rfl, rfl, SqT.of hb, rfl, _, _, rfl, rfl, _, rfl, _, rfl, _, _, rfl, rfl, _, _, rfl, rfl, _, rfl, ite2 (fun c2 => ?_) (fun c2 => ?_)⟩
    · have c2' : x.r + x.h < r + s := of_decide_eq_true c2
      rw [no (by omega)] at q
      exact q
    · have c2' : ¬ x.r + x.h < r + s := fun z => c2 (decide_eq_true z)
      refine ⟨_, rfl, b, _, 1, _, rfl, rfl, SqT.of hb, rfl, _, rfl, _, _, rfl, rfl, _, rfl, ite2 (fun c3 => ?_) (fun c3 => ?_)⟩
      · have c3' : x.c ≤ c := of_decide_eq_true c3
        refine ⟨_, rfl, _, rfl, _, _, rfl, rfl, _, rfl, b, _, 1, _, rfl, rfl, SqT.of hb, rfl, _, rfl, b, _, 3, _, rfl, rfl, SqT.of hb, rfl, _, _, rfl, rfl, _, _, rfl, rfl, ?_⟩
        have e : has x r c s = decide (c + s ≤ x.c + x.w) := by
          rw [Bool.eq_iff_iff, has_iff, decide_eq_true_iff]
          omega
        rw [e] at q
        exact q
      · have c3' : ¬ x.c ≤ c := fun z => c3 (decide_eq_true z)
        have e : has x r c s = false := by
          cases e : has x r c s with
          | false => rfl
          | true => exact absurd (has_iff.mp e).2.2.1 c3'
        rw [e] at q
        exact q
end
end QW
set_option Elab.async false
set_option linter.all false
set_option maxRecDepth 100000
set_option maxHeartbeats 4000000
/-! The walk, 10: the law's numbering of a shape. -/
namespace QW
open PySem PySem.Spec PyProof.Rows L2 QX QF
def bxD (x : Bx) : PyData := .tuple [.int x.r, .int x.c, .int x.h, .int x.w]
theorem dp_bxs {K : PySem.W.Frag} {H : Hp} : ∀ {ts : List Addr} {T : List Bx}, Each BoxAt H ts T → DpAll K H (ts.map V.ref) (T.map bxD)
  | [], [], _ => .nil
  | t :: ts, x :: T, h => .cons (.tup (SqT.of (h.2 0 t x rfl rfl)) (.cons (.int _) (.cons (.int _) (.cons (.int _) (.cons (.int _) .nil))))) (dp_bxs ⟨by simpa using h.1, fun i b y e1 e2 => h.2 (i + 1) b y (by simpa using e1) (by simpa using e2)⟩)
  | [], _ :: _, h => absurd h.1 (by simp)
  | _ :: _, [], h => absurd h.1 (by simp)
theorem bxs_shaped (T : List Bx) : SeqAt.shaped (.list (T.map bxD)) = true := by
  have h1 : PyData.canLayAll0 (T.map bxD) = true ∧ PyData.depthAll (T.map bxD) ≤ 1 := by
    induction T with
    | nil => exact ⟨rfl, Nat.zero_le _⟩
    | cons x T ih =>
      obtain ⟨i1, i2⟩ := ih
      refine ⟨?_, ?_⟩
      · show (PyData.canLay0 (bxD x) && PyData.canLayAll0 (T.map bxD)) = true
        rw [i1]
        simp [bxD, PyData.canLay0, PyData.canLayAll0]
      · show max (PyData.depth (bxD x)) (PyData.depthAll (T.map bxD)) ≤ 1
        have e : PyData.depth (bxD x) = 1 := by simp [bxD, PyData.depth, PyData.depthAll]
        omega
  unfold SeqAt.shaped
  simp only [PyData.canLay0, PyData.depth, h1.1]
  simp
  omega
theorem bxs_eqv (T : List Bx) : PyData.eqv (.list (T.map bxD)) (.list []) = T.isEmpty := by
  cases T <;> simp [PyData.eqv, PyData.eqvAll]
theorem nil_shaped : SeqAt.shaped (.list []) = true := by simp [SeqAt.shaped, PyData.canLay0, PyData.canLayAll0, PyData.depth, PyData.depthAll]
theorem any_take {α : Type} {p : α → Bool} {l : List α} {i : Nat} {x : α} (h : l[i]? = some x) : (l.take (i + 1)).map p = (l.take i).map p ++ [p x] := by
  rw [take_snoc h, List.map_append]
  rfl
/-! ### the four quarters one after another -/
def chain (k : Nat) (ms : List Bx) (r c : Int) (R : List Qd) : Nat → List Qd
  | 0 => R
  | i + 1 => (num k (chain k ms r c R i) ms (r + (2 : Int) ^ k * ((i / 2 : Nat) : Int)) (c + (2 : Int) ^ k * ((i % 2 : Nat) : Int))).2
def chv (k : Nat) (ms : List Bx) (r c : Int) (R : List Qd) (i : Nat) : Nat := (num k (chain k ms r c R i) ms (r + (2 : Int) ^ k * ((i / 2 : Nat) : Int)) (c + (2 : Int) ^ k * ((i % 2 : Nat) : Int))).1
def chq (k : Nat) (ms : List Bx) (r c : Int) (R : List Qd) : Qd := ⟨chv k ms r c R 0, chv k ms r c R 1, chv k ms r c R 2, chv k ms r c R 3⟩
theorem num_chain (k : Nat) (R : List Qd) (bs : List Bx) (r c : Int) (h : stopsAt (met bs r c ((2 : Int) ^ (k + 1))) r c ((2 : Int) ^ (k + 1)) = false) :
    num (k + 1) R bs r c = fin (chq k (met bs r c ((2 : Int) ^ (k + 1))) r c R) (chain k (met bs r c ((2 : Int) ^ (k + 1))) r c R 4) := by
  rw [num]
  dsimp only
  rw [h, if_neg Bool.false_ne_true]
  simp only [chq, chv, chain]
  simp
theorem chain_gd {k : Nat} {ms : List Bx} {r c : Int} {R : List Qd} (G : Gd R) : ∀ i, Gd (chain k ms r c R i)
  | 0 => G
  | i + 1 => (num_ok k _ ms _ _ (chain_gd G i)).gd (chain_gd G i)
theorem chain_step {k : Nat} {ms : List Bx} {r c : Int} {R : List Qd} (G : Gd R) (i : Nat) : (chain k ms r c R i).length ≤ (chain k ms r c R (i + 1)).length := by
  obtain ⟨E, e, _⟩ := (num_ok k _ ms (r + (2 : Int) ^ k * ((i / 2 : Nat) : Int)) (c + (2 : Int) ^ k * ((i % 2 : Nat) : Int)) (chain_gd G i)).pre
  show (chain k ms r c R i).length ≤ (num k (chain k ms r c R i) ms (r + (2 : Int) ^ k * ((i / 2 : Nat) : Int)) (c + (2 : Int) ^ k * ((i % 2 : Nat) : Int))).2.length
  rw [e, List.length_append]
  exact Nat.le_add_right _ _
theorem chain_le {k : Nat} {ms : List Bx} {r c : Int} {R : List Qd} (G : Gd R) : ∀ {i j : Nat}, i ≤ j → (chain k ms r c R i).length ≤ (chain k ms r c R j).length := by
  intro i j h
  induction h with
  | refl => exact Nat.le_refl _
  | step _ ih => exact Nat.le_trans ih (chain_step G _)
theorem fin_row {q : Qd} {R : List Qd} (n0 : q ≠ q0) (n1 : q ≠ q1) : (∀ i, idx R q = some i → fin q R = (i + 2, R)) ∧ (idx R q = none → fin q R = (R.length + 2, R ++ [q])) := by
  unfold fin
  rw [if_neg n0, if_neg n1]
  exact ⟨fun i e => by rw [e], fun e => by rw [e]⟩
theorem fin_le (q : Qd) (R : List Qd) : R.length ≤ (fin q R).2.length := by
  unfold fin
  split
  · exact Nat.le_refl _
  split
  · exact Nat.le_refl _
  split
  · exact Nat.le_refl _
  · simp
def qv (k : Nat) (ms : List Bx) (r c : Int) (R : List Qd) (i : Nat) : List V := (List.range i).map fun j => V.int (chv k ms r c R j : Nat)
theorem qv_succ (k : Nat) (ms : List Bx) (r c : Int) (R : List Qd) (i : Nat) : qv k ms r c R (i + 1) = qv k ms r c R i ++ [V.int (chv k ms r c R i : Nat)] := by
  unfold qv
  rw [List.range_succ, List.map_append]
  rfl
theorem qv_four (k : Nat) (ms : List Bx) (r c : Int) (R : List Qd) : qv k ms r c R 4 = rowV (chq k ms r c R) := rfl
def rowLD (q : Qd) : PyData := .list [.int q.a, .int q.b, .int q.c, .int q.d]
theorem rowLD_eqv (p q : Qd) : PyData.eqv (rowLD p) (rowLD q) = decide (p = q) := rowD_eqv p q
theorem rowLD_shaped (q : Qd) : SeqAt.shaped (rowLD q) = true := by
  simp [SeqAt.shaped, rowLD, PyData.canLay0, PyData.canLayAll0, PyData.depth, PyData.depthAll]
theorem rows01_shaped : SeqAt.shaped (.tuple [rowLD q0, rowLD q1]) = true := by
  simp [SeqAt.shaped, rowLD, PyData.canLay0, PyData.canLayAll0, PyData.depth, PyData.depthAll]
theorem dp_rowL {K : PySem.W.Frag} {H : Hp} {b : Addr} {q : Qd} (h : H b = some (.lst (rowV q))) : Dp K H (.ref b) (rowLD q) :=
  .lst (SqL.of h) (.cons (.int _) (.cons (.int _) (.cons (.int _) (.cons (.int _) .nil))))
theorem num_stop {k : Nat} {R : List Qd} {xs : List Bx} {r c : Int} (h : stopsAt (met xs r c ((2 : Int) ^ k)) r c ((2 : Int) ^ k) = true) : num k R xs r c = (if (met xs r c ((2 : Int) ^ k)).isEmpty = true then 0 else 1, R) := by
  cases k with
  | zero => rfl
  | succ k =>
    rw [num]
    dsimp only
    rw [if_pos h]
section
variable {P : Program} {w : World} {K : PySem.W.Frag} {mg : Str → Option Value} {base : Heap} {C : Addr}
def spNum (k : Nat) : Sp := fun vs H Q _ => ∃ (d bl : Addr) (bs : List Addr) (xs : List Bx) (R : List Qd) (r c : Int), vs = [.ref d, .ref bl, .int r, .int c, .int ((2 : Int) ^ k)] ∧ H d = some (.dT (dOf 0 R)) ∧ H bl = some (.lst (bs.map V.ref)) ∧ Each BoxAt H bs xs ∧
  xs.length ≤ 5 ∧ Gd R ∧ k ≤ 12 ∧ (num k R xs r c).2.length ≤ 1000 ∧ ∀ H', But [d] H H' → H' d = some (.dT (dOf 0 (num k R xs r c).2)) → Q (.int ((num k R xs r c).1 : Nat)) H'
/-! _law_number: slots 0 _law_rows, 1 _law_boxes_here, 2 _law_row, 3 _law_column, 4 _law_side, 5 _law_met, 6 _law_half, 7 _law_quarters, 8 _law_box_here, 9 _law_k; cells _law_column, _law_half, _law_met, _law_row, _law_rows, _law_side -/
abbrev s_L_number : Stmt := top 47
theorem sc_L_number : FnScope ["_law_rows", "_law_boxes_here", "_law_row", "_law_column", "_law_side", "_law_met", "_law_half", "_law_quarters", "_law_box_here", "_law_k"] ["_law_rows", "_law_boxes_here", "_law_row", "_law_column", "_law_side"] (defScope s_L_number) := ⟨rfl, rfl, rfl, by decide +kernel, rfl, by decide +kernel, by decide +kernel⟩
theorem c_L_num0 (T : Txt K mg C) : Cal P w K mg base 2 "_law_number" (spNum 0) := by
  have G_L_meets := c_L_meets (P := P) (w := w) (base := base) T
  have G_L_has := c_L_has (P := P) (w := w) (base := base) T
  refine T.d_L_number.cal sc_L_number (fun vs H Q E h => ?_) (fun f cdv A outer s H vs Q E hr h => ?_)
  · obtain ⟨d, bl, bs, xs, R, r, c, rfl, _⟩ := h
    rfl
  obtain ⟨d, bl, bs, xs, R, r, c, rfl, hd, hbl, hbs, hx5, G, hk, hR, q⟩ := h
  refine ⟨_, (pss_cons (ps_set (i := 5) sc_L_number.nd rfl (Or.inr rfl) (pe_lc (own := [("_law_box_here", 8)]) (g := gName 8) rfl sc_L_number.nd (pi_list (pv 1)) (blkOk_by (N := ["_law_rows", "_law_boxes_here", "_law_row", "_law_column", "_law_side", "_law_met", "_law_half", "_law_quarters", "_law_box_here", "_law_k"]) (sc := defScope s_L_number) (by decide +kernel)) (fun _ _ _ _ _ => (pg_name (i := 8) sc_L_number.nd rfl (Or.inl rfl))) (fun _ _ _ _ _ => pts_one (pt_val (pe_c G_L_meets hr (by decide) (by rfl) (pa_cons (pv 8) (pa_cons (pv 2) (pa_cons (pv 3) (pa_cons (pv 4) pa_nil))))))) (fun _ _ _ _ _ => (pv 8))))
    (pss_cons (ps_if (PW.pt (pw_or (pt_cmpR (op_eqD hr.units) (pv 5) (pe_lst pa_nil) (nomark _)) (pw_or1 (pt_val (pe_callB (cr_any rfl) (by rfl) T.b_any (by decide +kernel) (pa_cons (pe_lc (own := [("_law_box_here", 8)]) (g := gName 8) rfl sc_L_number.nd (pi_list (pv 5)) (blkOk_by (N := ["_law_rows", "_law_boxes_here", "_law_row", "_law_column", "_law_side", "_law_met", "_law_half", "_law_quarters", "_law_box_here", "_law_k"]) (sc := defScope s_L_number) (by decide +kernel)) (fun _ _ _ _ _ => (pg_name (i := 8) sc_L_number.nd rfl (Or.inl rfl))) (fun _ _ _ _ _ => pts_nil) (fun _ _ _ _ _ => (pe_c G_L_has hr (by decide) (by rfl) (pa_cons (pv 8) (pa_cons (pv 2) (pa_cons (pv 3) (pa_cons (pv 4) pa_nil))))))) pa_nil))))))
      (pss_one (ps_ret (pe_callTy call_int1 (by rfl) T.b_int (by decide +kernel) (pa_cons (pe_cmpR (op_neD hr.units) (pv 5) (pe_lst pa_nil) (nomark _)) pa_nil))))
      pss_nil)
    pss_never)), ?_⟩
  refine ⟨_, rfl, bl, rfl, ⟨_, SqL.of hbl⟩, fun D hD => ?_⟩
  refine lc_it (walk_list (xs := bs.map V.ref)) (fun i H' => Same H H' ∧ ∃ us, H' D = some (.lst (us.map V.ref)) ∧ Each BoxAt H' us ((xs.take i).filter fun b => meets b r c ((2 : Int) ^ 0))) ⟨same_new hD _, [], upd_same, by rw [List.take_zero]; exact Each.nil⟩ (fun _ _ _ ⟨s1, _⟩ => SqL.of (s1 _ _ hbl)) ?_ ?_
  · rintro i x H1 H2 hi ⟨s1, us, h1, hus⟩ ⟨rfl, hx⟩
    obtain ⟨b, hb, rfl⟩ := refs_at hx
    obtain ⟨y, hy, hby⟩ := hbs.at hb
    refine ⟨rfl, _, rfl, _, rfl, _, rfl, _, rfl, b, y, r, c, _, rfl, s1 _ _ hby, ?_⟩
    refine ⟨_, rfl, ?_⟩
    rw [take_filter hy]
    refine ite2 (fun cc => ?_) (fun cc => ?_)
    · refine ⟨_, rfl, _, h1, ?_, same_mut s1 hD _, us ++ [b], ?_, ?_⟩
      · rw [List.length_map, hus.1]
        refine sz_lt (Nat.lt_of_le_of_lt (List.length_filter_le _ _) ?_)
        rw [List.length_take]
        omega
      · rw [upd_same, List.map_append]
        rfl
      · rw [if_pos cc]
        have tp := ts_put h1 (.lst (us.map V.ref ++ [.ref b]))
        exact (hus.mono fun b y h => tp _ _ h).snoc (tp _ _ (s1 _ _ hby))
    · rw [if_neg cc]
      exact ⟨s1, us, h1, hus⟩
  rintro H1 ⟨s1, us, h1, hus⟩
  rw [List.length_map, hbs.1, List.take_length] at hus
  have hms : Each BoxAt H1 us (met xs r c ((2 : Int) ^ 0)) := hus
  have mle : (met xs r c ((2 : Int) ^ 0)).length ≤ 5 := Nat.le_trans (List.length_filter_le _ _) hx5
  have hstop := num_stop (k := 0) (R := R) (xs := xs) (r := r) (c := c)
  generalize hM : met xs r c ((2 : Int) ^ 0) = ms at hms mle hstop
  have valE : ∀ (H' : Hp), Same H1 H' → stopsAt ms r c ((2 : Int) ^ 0) = true → Q (.int (if (!ms.isEmpty) = true then 1 else 0)) H' := fun H' s' st => by
    have qq := q H' (.of (s1.trans s'))
    rw [hstop st] at qq
    have := qq ((s1.trans s') _ _ hd)
    cases e : ms.isEmpty with
    | true => rw [e] at this; exact this
    | false => rw [e] at this; exact this
  refine ⟨_, rfl, Nat.zero_le _, fun e he => ?_⟩
  have s2 := same_new he (.lst [])
  refine ⟨_, _, .lst (SqL.of (s2 _ _ h1)) (dp_bxs (hms.mono fun b x h => s2 _ _ h)), .lst (SqL.of upd_same) .nil, bxs_shaped _, nil_shaped, _, rfl, ?_⟩
  rw [bxs_eqv]
  have h2 := s2 _ _ h1
  have hms2 : Each BoxAt (upd H1 e (.lst [])) us ms := hms.mono fun b x h => s2 _ _ h
  generalize upd H1 e (.lst []) = H2 at s2 h2 hms2 ⊢
  refine ite2 (fun em => ?_) (fun em => ?_)
  · refine iteT ?_
    refine ⟨_, rfl, Nat.zero_le _, fun e2 he2 => ?_⟩
    have s3 := same_new he2 (.lst [])
    refine ⟨_, _, .lst (SqL.of (s3 _ _ h2)) (dp_bxs (hms2.mono fun b x h => s3 _ _ h)), .lst (SqL.of upd_same) .nil, bxs_shaped _, nil_shaped, .inr ⟨_, rfl, ?_⟩⟩
    rw [bxs_eqv]
    exact valE _ (s2.trans s3) (by unfold stopsAt; rw [em]; rfl)
  refine ⟨_, rfl, D, rfl, ⟨_, SqL.of h2⟩, fun B hB => ?_⟩
  refine lc_it (walk_list (xs := us.map V.ref)) (fun i H' => Same H2 H' ∧ H' B = some (.lst (((ms.take i).map fun b => has b r c ((2 : Int) ^ 0)).map V.bl))) ⟨same_new hB _, by rw [List.take_zero]; exact upd_same⟩ (fun _ _ _ ⟨s3, _⟩ => SqL.of (s3 _ _ h2)) ?_ ?_
  · rintro i x H3 H4 hi ⟨s3, h3⟩ ⟨rfl, hx⟩
    obtain ⟨b, hb, rfl⟩ := refs_at hx
    obtain ⟨y, hy, hby⟩ := hms2.at hb
    refine ⟨rfl, ?_⟩
    refine ⟨_, rfl, _, rfl, _, rfl, _, rfl, b, y, r, c, _, rfl, s3 _ _ hby, _, h3, ?_, ?_⟩
    · rw [List.length_map, List.length_map, List.length_take]
      exact sz_lt (by omega)
    · refine ⟨same_mut s3 hB _, ?_⟩
      rw [upd_same, any_take hy, List.map_append]
      rfl
  rintro H3 ⟨s3, h3⟩
  rw [List.length_map, hms2.1, List.take_length] at h3
  refine ⟨B, _, rfl, SqL.of h3, ?_⟩
  have estop : (List.map (fun b => has b r c ((2 : Int) ^ 0)) ms).any id = stopsAt ms r c ((2 : Int) ^ 0) := by
    unfold stopsAt
    have em' : ms.isEmpty = false := by simpa using em
    rw [em', List.any_map]
    rfl
  rw [estop]
  refine ⟨_, rfl, ite2 (fun st => ?_) (fun st => ?_)⟩
  · refine ⟨_, rfl, Nat.zero_le _, fun e2 he2 => ?_⟩
    have s4 := same_new he2 (.lst [])
    refine ⟨_, _, .lst (SqL.of (s4 _ _ (s3 _ _ h2))) (dp_bxs (hms2.mono fun b x h => s4 _ _ (s3 _ _ h))), .lst (SqL.of upd_same) .nil, bxs_shaped _, nil_shaped, .inr ⟨_, rfl, ?_⟩⟩
    rw [bxs_eqv]
    exact valE _ ((s2.trans s3).trans s4) st
  · exact absurd (by rw [← hM]; exact stops_one xs r c) st
theorem c_L_numS (T : Txt K mg C) {k : Nat} (G_L_number : Cal P w K mg base (k + 2) "_law_number" (spNum k)) : Cal P w K mg base (k + 3) "_law_number" (spNum (k + 1)) := by
  have G_L_meets := c_L_meets (P := P) (w := w) (base := base) T
  have G_L_has := c_L_has (P := P) (w := w) (base := base) T
  refine T.d_L_number.cal sc_L_number (fun vs H Q E h => ?_) (fun f cdv A outer s H vs Q E hr h => ?_)
  · obtain ⟨d, bl, bs, xs, R, r, c, rfl, _⟩ := h
    rfl
  obtain ⟨d, bl, bs, xs, R, r, c, rfl, hd, hbl, hbs, hx5, G, hk, hR, q⟩ := h
  refine ⟨_, (pss_cons (ps_set (i := 5) sc_L_number.nd rfl (Or.inr rfl) (pe_lc (own := [("_law_box_here", 8)]) (g := gName 8) rfl sc_L_number.nd (pi_list (pv 1)) (blkOk_by (N := ["_law_rows", "_law_boxes_here", "_law_row", "_law_column", "_law_side", "_law_met", "_law_half", "_law_quarters", "_law_box_here", "_law_k"]) (sc := defScope s_L_number) (by decide +kernel)) (fun _ _ _ _ _ => (pg_name (i := 8) sc_L_number.nd rfl (Or.inl rfl))) (fun _ _ _ _ _ => pts_one (pt_val (pe_c G_L_meets hr (by omega) (by rfl) (pa_cons (pv 8) (pa_cons (pv 2) (pa_cons (pv 3) (pa_cons (pv 4) pa_nil))))))) (fun _ _ _ _ _ => (pv 8))))
    (pss_cons (ps_if (PW.pt (pw_or (pt_cmpR (op_eqD hr.units) (pv 5) (pe_lst pa_nil) (nomark _)) (pw_or1 (pt_val (pe_callB (cr_any rfl) (by rfl) T.b_any (by decide +kernel) (pa_cons (pe_lc (own := [("_law_box_here", 8)]) (g := gName 8) rfl sc_L_number.nd (pi_list (pv 5)) (blkOk_by (N := ["_law_rows", "_law_boxes_here", "_law_row", "_law_column", "_law_side", "_law_met", "_law_half", "_law_quarters", "_law_box_here", "_law_k"]) (sc := defScope s_L_number) (by decide +kernel)) (fun _ _ _ _ _ => (pg_name (i := 8) sc_L_number.nd rfl (Or.inl rfl))) (fun _ _ _ _ _ => pts_nil) (fun _ _ _ _ _ => (pe_c G_L_has hr (by omega) (by rfl) (pa_cons (pv 8) (pa_cons (pv 2) (pa_cons (pv 3) (pa_cons (pv 4) pa_nil))))))) pa_nil))))))
      (pss_one (ps_ret (pe_callTy call_int1 (by rfl) T.b_int (by decide +kernel) (pa_cons (pe_cmpR (op_neD hr.units) (pv 5) (pe_lst pa_nil) (nomark _)) pa_nil))))
      pss_nil)
    (pss_cons (ps_set (i := 6) sc_L_number.nd rfl (Or.inr rfl) (pe_op op_fdiv (pv 4) pe_int))
    (pss_cons (ps_setLc (i := 7) (own := [("_law_k", 9)]) (g := gName 9) rfl sc_L_number.nd rfl rfl (sw_true rfl rfl rfl (by decide +kernel)) (pi_range1 (by rfl) T.b_range (pa_cons pe_int pa_nil)) (blkOk_by (N := ["_law_rows", "_law_boxes_here", "_law_row", "_law_column", "_law_side", "_law_met", "_law_half", "_law_quarters", "_law_box_here", "_law_k"]) (sc := defScope s_L_number) (by decide +kernel)) (fun _ _ _ _ _ => (pg_name (i := 9) sc_L_number.nd rfl (Or.inl rfl))) (fun _ _ _ _ _ => pts_nil) (fun _ _ _ _ _ => (pe_c G_L_number hr (by omega) (by rfl) (pa_cons (pv 0) (pa_cons (pv 5) (pa_cons (pe_op op_add (pv 2) (pe_op op_mul (pv 6) (pe_op op_fdiv (pv 9) pe_int))) (pa_cons (pe_op op_add (pv 3) (pe_op op_mul (pv 6) (pe_op op_mod (pv 9) pe_int))) (pa_cons (pv 6) pa_nil))))))))
    (pss_cons (ps_if (pt_cmpR (op_inU (hu65 hr)) (pv 7) (pe_tup (pa_cons (pe_lst (pa_cons pe_int (pa_cons pe_int (pa_cons pe_int (pa_cons pe_int pa_nil))))) (pa_cons (pe_lst (pa_cons pe_int (pa_cons pe_int (pa_cons pe_int (pa_cons pe_int pa_nil))))) pa_nil))) rfl)
      (pss_one (ps_ret (pe_ix ix_list (pv 7) pe_int (fun _ _ => rfl))))
      pss_nil)
    (pss_cons (ps_if (pt_cmp (pc_dnotin (hu_of hr) (pe_callTy call_tuple_of (by rfl) T.b_tuple (by decide +kernel) (pa_cons (pv 7) pa_nil)) (pv 0)) rfl)
      (pss_one (ps_dput (hu_of hr) (pv 0) (pe_callTy call_tuple_of (by rfl) T.b_tuple (by decide +kernel) (pa_cons (pv 7) pa_nil)) (pe_op op_add (pe_callB call_len_dT (by rfl) T.b_len (by decide +kernel) (pa_cons (pv 0) pa_nil)) pe_int) rfl))
      pss_nil)
    (pss_one (ps_ret (pe_dget (hu_of hr) (pv 0) (pe_callTy call_tuple_of (by rfl) T.b_tuple (by decide +kernel) (pa_cons (pv 7) pa_nil)) (fun _ _ => rfl)))))))))), ?_⟩
  refine ⟨_, rfl, bl, rfl, ⟨_, SqL.of hbl⟩, fun D hD => ?_⟩
  refine lc_it (walk_list (xs := bs.map V.ref)) (fun i H' => Same H H' ∧ ∃ us, H' D = some (.lst (us.map V.ref)) ∧ Each BoxAt H' us ((xs.take i).filter fun b => meets b r c ((2 : Int) ^ (k + 1)))) ⟨same_new hD _, [], upd_same, by rw [List.take_zero]; exact Each.nil⟩ (fun _ _ _ ⟨s1, _⟩ => SqL.of (s1 _ _ hbl)) ?_ ?_
  · rintro i x H1 H2 hi ⟨s1, us, h1, hus⟩ ⟨rfl, hx⟩
    obtain ⟨b, hb, rfl⟩ := refs_at hx
    obtain ⟨y, hy, hby⟩ := hbs.at hb
    refine ⟨rfl, _, rfl, _, rfl, _, rfl, _, rfl, b, y, r, c, _, rfl, s1 _ _ hby, ?_⟩
    refine ⟨_, rfl, ?_⟩
    rw [take_filter hy]
    refine ite2 (fun cc => ?_) (fun cc => ?_)
    · refine ⟨_, rfl, _, h1, ?_, same_mut s1 hD _, us ++ [b], ?_, ?_⟩
      · rw [List.length_map, hus.1]
        refine sz_lt (Nat.lt_of_le_of_lt (List.length_filter_le _ _) ?_)
        rw [List.length_take]
        omega
      · rw [upd_same, List.map_append]
        rfl
      · rw [if_pos cc]
        have tp := ts_put h1 (.lst (us.map V.ref ++ [.ref b]))
        exact (hus.mono fun b y h => tp _ _ h).snoc (tp _ _ (s1 _ _ hby))
    · rw [if_neg cc]
      exact ⟨s1, us, h1, hus⟩
  rintro H1 ⟨s1, us, h1, hus⟩
  rw [List.length_map, hbs.1, List.take_length] at hus
  have hms : Each BoxAt H1 us (met xs r c ((2 : Int) ^ (k + 1))) := hus
  have mle : (met xs r c ((2 : Int) ^ (k + 1))).length ≤ 5 := Nat.le_trans (List.length_filter_le _ _) hx5
  have hstop := num_stop (k := (k + 1)) (R := R) (xs := xs) (r := r) (c := c)
  generalize hM : met xs r c ((2 : Int) ^ (k + 1)) = ms at hms mle hstop
  have valE : ∀ (H' : Hp), Same H1 H' → stopsAt ms r c ((2 : Int) ^ (k + 1)) = true → Q (.int (if (!ms.isEmpty) = true then 1 else 0)) H' := fun H' s' st => by
    have qq := q H' (.of (s1.trans s'))
    rw [hstop st] at qq
    have := qq ((s1.trans s') _ _ hd)
    cases e : ms.isEmpty with
    | true => rw [e] at this; exact this
    | false => rw [e] at this; exact this
  refine ⟨_, rfl, Nat.zero_le _, fun e he => ?_⟩
  have s2 := same_new he (.lst [])
  refine ⟨_, _, .lst (SqL.of (s2 _ _ h1)) (dp_bxs (hms.mono fun b x h => s2 _ _ h)), .lst (SqL.of upd_same) .nil, bxs_shaped _, nil_shaped, _, rfl, ?_⟩
  rw [bxs_eqv]
  have h2 := s2 _ _ h1
  have hms2 : Each BoxAt (upd H1 e (.lst [])) us ms := hms.mono fun b x h => s2 _ _ h
  generalize upd H1 e (.lst []) = H2 at s2 h2 hms2 ⊢
  refine ite2 (fun em => ?_) (fun em => ?_)
  · refine iteT ?_
    refine ⟨_, rfl, Nat.zero_le _, fun e2 he2 => ?_⟩
    have s3 := same_new he2 (.lst [])
    refine ⟨_, _, .lst (SqL.of (s3 _ _ h2)) (dp_bxs (hms2.mono fun b x h => s3 _ _ h)), .lst (SqL.of upd_same) .nil, bxs_shaped _, nil_shaped, .inr ⟨_, rfl, ?_⟩⟩
    rw [bxs_eqv]
    exact valE _ (s2.trans s3) (by unfold stopsAt; rw [em]; rfl)
  refine ⟨_, rfl, D, rfl, ⟨_, SqL.of h2⟩, fun B hB => ?_⟩
  refine lc_it (walk_list (xs := us.map V.ref)) (fun i H' => Same H2 H' ∧ H' B = some (.lst (((ms.take i).map fun b => has b r c ((2 : Int) ^ (k + 1))).map V.bl))) ⟨same_new hB _, by rw [List.take_zero]; exact upd_same⟩ (fun _ _ _ ⟨s3, _⟩ => SqL.of (s3 _ _ h2)) ?_ ?_
  · rintro i x H3 H4 hi ⟨s3, h3⟩ ⟨rfl, hx⟩
    obtain ⟨b, hb, rfl⟩ := refs_at hx
    obtain ⟨y, hy, hby⟩ := hms2.at hb
    refine ⟨rfl, ?_⟩
    refine ⟨_, rfl, _, rfl, _, rfl, _, rfl, b, y, r, c, _, rfl, s3 _ _ hby, _, h3, ?_, ?_⟩
    · rw [List.length_map, List.length_map, List.length_take]
      exact sz_lt (by omega)
    · refine ⟨same_mut s3 hB _, ?_⟩
      rw [upd_same, any_take hy, List.map_append]
      rfl
  rintro H3 ⟨s3, h3⟩
  rw [List.length_map, hms2.1, List.take_length] at h3
  refine ⟨B, _, rfl, SqL.of h3, ?_⟩
  have estop : (List.map (fun b => has b r c ((2 : Int) ^ (k + 1))) ms).any id = stopsAt ms r c ((2 : Int) ^ (k + 1)) := by
    unfold stopsAt
    have em' : ms.isEmpty = false := by simpa using em
    rw [em', List.any_map]
    rfl
  rw [estop]
  refine ⟨_, rfl, ite2 (fun st => ?_) (fun st => ?_)⟩
  · refine ⟨_, rfl, Nat.zero_le _, fun e2 he2 => ?_⟩
    have s4 := same_new he2 (.lst [])
    refine ⟨_, _, .lst (SqL.of (s4 _ _ (s3 _ _ h2))) (dp_bxs (hms2.mono fun b x h => s4 _ _ (s3 _ _ h))), .lst (SqL.of upd_same) .nil, bxs_shaped _, nil_shaped, .inr ⟨_, rfl, ?_⟩⟩
    rw [bxs_eqv]
    exact valE _ ((s2.trans s3).trans s4) st
  have st' : stopsAt ms r c ((2 : Int) ^ (k + 1)) = false := by simpa using st
  have s13 := (s1.trans s2).trans s3
  have hd3 := s13 _ _ hd
  have hD3 := s3 _ _ h2
  have hms3 : Each BoxAt H3 us ms := hms2.mono fun b x h => s3 _ _ h
  have enum : num (k + 1) R xs r c = fin (chq k ms r c R) (chain k ms r c R 4) := by
    have := num_chain k R xs r c (by rw [hM]; exact st')
    rw [hM] at this
    exact this
  rw [enum] at hR q
  have lenR : (chain k ms r c R 4).length ≤ 1000 := Nat.le_trans (fin_le _ _) hR
  have p4096 := pow_le_4096 (n := k) (by omega)
  have ppos := two_pow_pos k
  have four' : 4 ≤ sizeLine := by decide
  have two : 2 ≤ sizeLine := by decide
  refine ⟨_, rfl, _, _, rfl, rfl, ⟨by decide, by decide⟩, ?_⟩
  have eh : (fun i j : Int => V.int (i / j)) ((2 : Int) ^ (k + 1)) 2 = V.int ((2 : Int) ^ k) := congrArg V.int (half_pow k)
  rw [eh]
  refine ⟨4, rfl, by decide, by decide, fun L hL => ?_⟩
  have ndL : d ≠ L := ne_of_none hd3 hL
  refine lc_it walk_range (fun i H' => But [d] H3 H' ∧ H' d = some (.dT (dOf 0 (chain k ms r c R i))) ∧ H' L = some (.lst (qv k ms r c R i)))
    ⟨(But.of (Same.refl _)).fresh hL _, by rw [upd_ne ndL]; exact hd3, upd_same⟩ (fun _ _ _ _ => trivial) ?_ ?_
  · rintro i x H4 H5 hi ⟨B4, hd4, h4⟩ ⟨rfl, rfl⟩
    have hi4 : i < 4 := hi
    have ex : (fun i : Nat => V.int (0 + (i : Nat))) i = V.int (i : Nat) := congrArg V.int (Int.zero_add _)
    rw [ex]
    have cm_ : ∀ z, CMul ((2 : Int) ^ k) z := fun z => .inl ⟨by omega, by omega⟩
    have hD4 := B4 _ _ (by rw [List.mem_singleton]; exact fun z => by rw [z, hd3] at hD3; cases hD3) hD3
    have tt4 : TS H3 H5 := fun b ys e => B4 _ _ (by rw [List.mem_singleton]; exact fun z => by rw [z, hd3] at e; cases e) e
    refine ⟨rfl, _, rfl, _, rfl, _, rfl, _, rfl, _, rfl, _, _, rfl, rfl, ⟨by decide, by decide⟩, _, _, rfl, rfl, cm_ _, _, _, rfl, rfl, _, rfl, _, rfl, _, rfl, _, _, rfl, rfl, (by show (0 : Int) < 2; decide), _, _, rfl, rfl, cm_ _, _, _, rfl, rfl, _, rfl, ?_⟩
    refine ⟨d, D, us, ms, chain k ms r c R i, r + (2 : Int) ^ k * ((i / 2 : Nat) : Int), c + (2 : Int) ^ k * ((i % 2 : Nat) : Int), rfl, hd4, hD4, hms3.mono fun b x h => tt4 _ _ h, mle, chain_gd G i, by omega, ?_, fun H6 B6 hd6 => ?_⟩
    · exact Nat.le_trans (chain_le G (i := i + 1) (j := 4) (by omega)) lenR
    · have h6 := B6 _ _ (by simp [ndL.symm]) h4
      refine ⟨_, h6, ?_, (B4.trans B6).fresh hL _, ?_, ?_⟩
      · unfold qv
        rw [List.length_map, List.length_range]
        exact sz_lt (by omega)
      · rw [upd_ne ndL]
        exact hd6
      · rw [upd_same, qv_succ]
        rfl
  rintro H4 ⟨B4, hd4, h4⟩
  have h4' : H4 L = some (.lst (rowV (chq k ms r c R))) := h4
  have B04 : But [d] H H4 := (But.of s13).trans B4
  have hd4' : H4 d = some (.dT (dOf 0 (chain k ms r c R 4))) := hd4
  generalize hq4 : chq k ms r c R = q4 at h4' hR q
  generalize chain k ms r c R 4 = R4 at hd4' hR q lenR
  refine ⟨_, rfl, four', fun t1 g1 => ⟨four', fun t2 g2 => ⟨two, fun t3 g3 => ?_⟩⟩⟩
  have s5 : Same H4 (upd (upd (upd H4 t1 (.lst (rowV q0))) t2 (.lst (rowV q1))) t3 (.tup [.ref t1, .ref t2])) := same_then (same_then (same_new g1 _) g2 _) g3 _
  have k1 : (upd (upd (upd H4 t1 (.lst (rowV q0))) t2 (.lst (rowV q1))) t3 (.tup [.ref t1, .ref t2])) t1 = some (.lst (rowV q0)) := (same_new g3 _) _ _ ((same_new g2 _) _ _ upd_same)
  have k2 : (upd (upd (upd H4 t1 (.lst (rowV q0))) t2 (.lst (rowV q1))) t3 (.tup [.ref t1, .ref t2])) t2 = some (.lst (rowV q1)) := (same_new g3 _) _ _ upd_same
  have k3 : (upd (upd (upd H4 t1 (.lst (rowV q0))) t2 (.lst (rowV q1))) t3 (.tup [.ref t1, .ref t2])) t3 = some (.tup [.ref t1, .ref t2]) := upd_same
  show rInU K (.ref L) (.ref t3) (upd (upd (upd H4 t1 (.lst (rowV q0))) t2 (.lst (rowV q1))) t3 (.tup [.ref t1, .ref t2])) _
  generalize upd (upd (upd H4 t1 (.lst (rowV q0))) t2 (.lst (rowV q1))) t3 (.tup [.ref t1, .ref t2]) = H5 at s5 k1 k2 k3 ⊢
  refine ⟨rowLD q4, [rowLD q0, rowLD q1], dp_rowL (s5 _ _ h4'), .tup (SqT.of k3) (.cons (dp_rowL k1) (.cons (dp_rowL k2) .nil)), rowLD_shaped _, rows01_shaped, _, rfl, ?_⟩
  have e : ([rowLD q0, rowLD q1].any fun z => PyData.eqv z (rowLD q4)) = (decide (q0 = q4) || decide (q1 = q4)) := by
    simp only [List.any_cons, List.any_nil, Bool.or_false]
    rw [rowLD_eqv, rowLD_eqv]
  rw [e]
  have hL5 := s5 _ _ h4'
  have hd5 := s5 _ _ hd4'
  have B5 := B04.trans (.of s5)
  refine ite2 (fun c1 => ?_) (fun c1 => ?_)
  · refine ⟨_, rfl, L, _, 0, _, rfl, rfl, SqL.of hL5, rfl, ?_⟩
    have := q H5 B5
    unfold fin at this
    by_cases e0 : q4 = q0
    · rw [if_pos e0] at this
      have qv0 := this hd5
      rw [e0]
      exact qv0
    · have e1 : q4 = q1 := by
        rcases Bool.or_eq_true_iff.mp c1 with z | z
        · exact absurd (of_decide_eq_true z).symm e0
        · exact (of_decide_eq_true z).symm
      rw [if_neg e0, if_pos e1] at this
      have qv0 := this hd5
      rw [e1]
      exact qv0
  have n0 : q4 ≠ q0 := fun z => c1 (by rw [decide_eq_true z.symm]; rfl)
  have n1 : q4 ≠ q1 := fun z => c1 (by rw [decide_eq_true z.symm, Bool.or_true])
  refine ⟨_, rfl, L, _, rfl, .inl ⟨SqL.of hL5, fun u hu => ?_⟩⟩
  have s6 := same_new hu (.tup (rowV q4))
  have hd6 := s6 _ _ hd5
  have hL6 := s6 _ _ hL5
  have hu6 : (upd H5 u (.tup (rowV q4))) u = some (.tup ((keyOf q4).map kV)) := by rw [keyOf_kV]; exact upd_same
  have B6 := B5.trans (.of s6)
  generalize upd H5 u (.tup (rowV q4)) = H6 at s6 hd6 hL6 hu6 B6 ⊢
  have g : DGet H6 d (.ref u) (valV (dOf 0 R4) (keyOf q4)) := DGet.t hd6 hu6
  rw [dOf_val] at g
  cases hix : idx R4 q4 with
  | some i =>
    rw [hix] at g
    rw [(fin_row n0 n1).1 i hix] at q
    refine ⟨_, rfl, d, _, rfl, g, _, rfl, iteF ?_⟩
    refine ⟨_, rfl, _, rfl, L, _, rfl, .inl ⟨SqL.of hL6, fun u2 hu2 => ?_⟩⟩
    have s7 := same_new hu2 (.tup (rowV q4))
    have g7 : DGet (upd H6 u2 (.tup (rowV q4))) d (.ref u2) (valV (dOf 0 R4) (keyOf q4)) := DGet.t (s7 _ _ hd6) (by rw [keyOf_kV]; exact upd_same)
    rw [dOf_val, hix] at g7
    refine ⟨d, _, rfl, g7, ?_⟩
    have ej : (fun j : Nat => V.int ((0 + j + 2 : Nat) : Int)) i = V.int ((i + 2 : Nat) : Int) := congrArg (fun z : Nat => V.int (z : Int)) (by omega)
    rw [ej]
    exact q _ (B6.trans (.of s7)) (s7 _ _ hd6)
  | none =>
    rw [hix] at g
    rw [(fin_row n0 n1).2 hix] at q hR
    refine ⟨_, rfl, d, _, rfl, g, _, rfl, iteT ?_⟩
    refine ⟨_, rfl, d, _, rfl, hd6, _, _, rfl, rfl, _, rfl, _, rfl, L, _, rfl, .inl ⟨SqL.of hL6, fun u2 hu2 => ?_⟩⟩
    have s7 := same_new hu2 (.tup (rowV q4))
    have hd7 := s7 _ _ hd6
    have hL7 := s7 _ _ hL6
    have hu7 : (upd H6 u2 (.tup (rowV q4))) u2 = some (.tup ((keyOf q4).map kV)) := by rw [keyOf_kV]; exact upd_same
    have B7 := B6.trans (.of s7)
    generalize upd H6 u2 (.tup (rowV q4)) = H7 at s7 hd7 hL7 hu7 B7 ⊢
    have nR : q4 ∉ R4 := idx_none hix
    have hput : putK (dOf 0 R4) (keyOf q4) (.int ((R4.length + 2 : Nat) : Int)) = dOf 0 (R4 ++ [q4]) := dOf_put nR
    have hR' : (R4 ++ [q4]).length ≤ 1000 := hR
    have ndL' : d ≠ L := ndL
    refine ⟨d, upd H7 d (.dT (dOf 0 (R4 ++ [q4]))), rfl, .inr ⟨dOf 0 R4, keyOf q4, u2, hd7, rfl, hu7, by rw [dOf_len]; exact sz_lt (by omega), ?_⟩, ?_⟩
    · rw [← hput, dOf_len]
      rfl
    have hd8 : (upd H7 d (.dT (dOf 0 (R4 ++ [q4])))) d = some (.dT (dOf 0 (R4 ++ [q4]))) := upd_same
    have hL8 : (upd H7 d (.dT (dOf 0 (R4 ++ [q4])))) L = some (.lst (rowV q4)) := by rw [upd_ne ndL.symm]; exact hL7
    have B8 : But [d] H (upd H7 d (.dT (dOf 0 (R4 ++ [q4])))) := B7.put (List.mem_singleton.mpr rfl) _
    generalize upd H7 d (.dT (dOf 0 (R4 ++ [q4]))) = H8 at hd8 hL8 B8 ⊢
    refine ⟨_, rfl, _, rfl, L, _, rfl, .inl ⟨SqL.of hL8, fun u3 hu3 => ?_⟩⟩
    have s9 := same_new hu3 (.tup (rowV q4))
    have g9 : DGet (upd H8 u3 (.tup (rowV q4))) d (.ref u3) (valV (dOf 0 (R4 ++ [q4])) (keyOf q4)) := DGet.t (s9 _ _ hd8) (by rw [keyOf_kV]; exact upd_same)
    have v9 : valV (dOf 0 (R4 ++ [q4])) (keyOf q4) = some (.int ((R4.length + 2 : Nat) : Int)) := by
      have := valV_snoc (keyOf q4) (keyOf q4) (V.int ((R4.length + 2 : Nat) : Int)) (dOf 0 R4) (by rw [dOf_val, hix]; rfl)
      rw [if_pos rfl] at this
      rw [dOf_snoc, Nat.zero_add]
      exact this
    rw [v9] at g9
    exact ⟨d, _, rfl, g9, q _ (B8.trans (.of s9)) (s9 _ _ hd8)⟩
theorem c_L_number (T : Txt K mg C) : ∀ k, Cal P w K mg base (k + 2) "_law_number" (spNum k)
  | 0 => c_L_num0 T
  | k + 1 => c_L_numS T (c_L_number T k)
theorem rows_of_keys {H : Hp} : ∀ {R : List Qd} {i : Nat} {bs : List Addr}, IsKeys H (dOf i R) bs → RowsAt H bs R
  | [], _, bs, h => by
    cases h
    trivial
  | q :: R, i, bs, h => by
    cases h with
    | cons h1 h2 => exact ⟨h1, rows_of_keys h2⟩
def spLShape : Sp := fun vs H Q _ => ∃ (n : Nat) (bl : Addr) (bs : List Addr) (xs : List Bx), vs = [.int n, .ref bl] ∧ H bl = some (.lst (bs.map V.ref)) ∧ Each BoxAt H bs xs ∧ xs.length ≤ 5 ∧ (∀ x ∈ xs, BxOk x) ∧ n ≤ 12 ∧
  ∀ a H', Same H H' → TellAt H' a n (num n [] xs 0 0).1 (num n [] xs 0 0).2 → Q (.ref a) H'
/-! _law_shape: slots 0 _law_n, 1 _law_boxes_here, 2 _law_rows, 3 _law_top -/
abbrev s_L_shape : Stmt := top 48
theorem sc_L_shape : FnScope ["_law_n", "_law_boxes_here", "_law_rows", "_law_top"] ["_law_n", "_law_boxes_here"] (defScope s_L_shape) := ⟨rfl, rfl, rfl, by decide +kernel, rfl, by decide +kernel, by decide +kernel⟩
theorem c_L_shape (T : Txt K mg C) : Cal P w K mg base 15 "_law_shape" spLShape := by
  have G_L_number : ∀ k, Cal P w K mg base (k + 2) "_law_number" (spNum k) := c_L_number (P := P) (w := w) (base := base) T
  refine T.d_L_shape.cal sc_L_shape (fun vs H Q E h => ?_) (fun f cdv A outer s H vs Q E hr h => ?_)
  · obtain ⟨n, bl, bs, xs, rfl, _⟩ := h
    rfl
  obtain ⟨n, bl, bs, xs, rfl, hbl, hbs, hx5, hok, hn, q⟩ := h
  replace G_L_number := G_L_number n
  have hS := shp_of hn hok hx5
  refine ⟨_, (pss_cons (ps_set (i := 2) sc_L_shape.nd rfl (Or.inl rfl) pe_dnewT)
    (pss_cons (ps_set (i := 3) sc_L_shape.nd rfl (Or.inl rfl) (pe_c G_L_number hr (by omega) (by rfl) (pa_cons (pv 2) (pa_cons (pv 1) (pa_cons pe_int (pa_cons pe_int (pa_cons (pe_op op_shl pe_int (pv 0)) pa_nil)))))))
    (pss_one (ps_ret (pe_tup (pa_cons (pv 0) (pa_cons (pv 3) (pa_cons (pe_callTy (call_tupD rfl) (by rfl) T.b_tuple (by decide +kernel) (pa_cons (pv 2) pa_nil)) pa_nil)))))))), ?_⟩
  intro d hd
  have s1 := same_new hd (.dT [])
  refine ⟨_, rfl, _, rfl, _, rfl, _, _, rfl, rfl, ⟨by omega, by omega, by decide⟩, ?_⟩
  have few := hS.few
  refine ⟨d, bl, bs, xs, [], 0, 0, ?_, upd_same, s1 _ _ hbl, hbs.mono fun b x h => s1 _ _ h, hx5, Gd.nil, hn, by omega, fun H2 B2 h2 => ?_⟩
  · show [V.ref d, V.ref bl, V.int 0, V.int 0, V.int (1 * 2 ^ ((n : Nat) : Int).toNat)] = _
    rw [pow_pos', Int.toNat_natCast]
  have s2 : Same H H2 := fun b o z => B2 b o (fun y => by rw [List.mem_singleton.mp y, hd] at z; cases z) (s1 b o z)
  refine ⟨_, rfl, _, rfl, _, rfl, d, _, rfl, h2, fun p bs' hp hk => ⟨by show 3 ≤ sizeLine; decide, fun a ha => ?_⟩⟩
  have hrw := rows_of_keys hk
  have s3 := same_then s2 hp (.tup (bs'.map V.ref))
  have s4 := same_then s3 ha (.tup [.int n, .int ((num n [] xs 0 0).1 : Nat), .ref p])
  exact q a _ s4 ⟨p, bs', upd_same, (same_new ha _) _ _ upd_same, (hrw.same (same_new hp _)).same (same_new ha _)⟩
end
end QW
set_option Elab.async false
set_option linter.all false
set_option maxRecDepth 100000
set_option maxHeartbeats 4000000
/-! The walk, 11: the law's leaves, squares, places and shares. -/
namespace QW
open PySem PySem.Spec PyProof.Rows L2 QX QF
theorem fig23 {x : Nat} (h : 48 ≤ x ∧ x < 52) : (if decide (x ∈ ("23" : Str).cps.toList) = true then (1 : Int) else 0) = (((x - 48) / 2 : Nat) : Int) := by
  have : x = 48 ∨ x = 49 ∨ x = 50 ∨ x = 51 := by omega
  rcases this with rfl | rfl | rfl | rfl <;> decide +kernel
theorem fig13 {x : Nat} (h : 48 ≤ x ∧ x < 52) : (if decide (x ∈ ("13" : Str).cps.toList) = true then (1 : Int) else 0) = (((x - 48) % 2 : Nat) : Int) := by
  have : x = 48 ∨ x = 49 ∨ x = 50 ∨ x = 51 := by omega
  rcases this with rfl | rfl | rfl | rfl <;> decide +kernel
/-! ### the way down -/
def lfS (R : List Qd) (x y : Int) (n : Nat) (tp : Nat) : Nat → Nat × List Nat
  | 0 => (tp, [])
  | i + 1 => if 1 < (lfS R x y n tp i).1 then (qat (R.getD ((lfS R x y n tp i).1 - 2) q0) (qof x y (n - 1 - i)), (lfS R x y n tp i).2 ++ [48 + qof x y (n - 1 - i)]) else lfS R x y n tp i
theorem lfS_lf (R : List Qd) (x y : Int) (n tp : Nat) : ∀ i, i ≤ n → lf R x y (n - i) (lfS R x y n tp i).1 (lfS R x y n tp i).2 = lf R x y n tp []
  | 0, _ => rfl
  | i + 1, h => by
    have ih := lfS_lf R x y n tp i (by omega)
    rw [← ih, show n - i = (n - (i + 1)) + 1 by omega, lf, lfS]
    have e : n - 1 - i = n - (i + 1) := by omega
    rw [e]
    by_cases c : 1 < (lfS R x y n tp i).1
    · rw [if_pos c, if_pos c]
    · rw [if_neg c, if_neg c]
theorem lfS_len (R : List Qd) (x y : Int) (n tp : Nat) : ∀ i, (lfS R x y n tp i).2.length ≤ i
  | 0 => Nat.le_refl _
  | i + 1 => by
    have ih := lfS_len R x y n tp i
    rw [lfS]
    split
    · simp
      omega
    · omega
theorem lfS_lt {R : List Qd} (G : Gd R) (x y : Int) (n tp : Nat) (h : tp < R.length + 2) : ∀ i, (lfS R x y n tp i).1 < R.length + 2
  | 0 => h
  | i + 1 => by
    have ih := lfS_lt G x y n tp h i
    rw [lfS]
    split
    · rename_i c
      have hq : R[(lfS R x y n tp i).1 - 2]? = some R[(lfS R x y n tp i).1 - 2] := List.getElem?_eq_getElem (by omega)
      have e : R.getD ((lfS R x y n tp i).1 - 2) q0 = R[(lfS R x y n tp i).1 - 2] := by rw [List.getD_eq_getElem?_getD, hq]; rfl
      obtain ⟨ga, gb, gc, gd⟩ := G.lt _ _ hq
      show qat (R.getD ((lfS R x y n tp i).1 - 2) q0) _ < _
      rw [e]
      unfold qat
      split <;> omega
    · exact ih
theorem qof_lt (x y : Int) (k : Nat) : qof x y k < 4 := by
  unfold qof
  have h1 := Int.emod_lt_of_pos (x / (2 : Int) ^ k) (show (0 : Int) < 2 by decide)
  have h2 := Int.emod_lt_of_pos (y / (2 : Int) ^ k) (show (0 : Int) < 2 by decide)
  omega
theorem qof_int (x y : Int) (k : Nat) : 2 * (x / (2 : Int) ^ k % 2) + y / (2 : Int) ^ k % 2 = ((qof x y k : Nat) : Int) := by
  unfold qof
  have h1 := Int.emod_nonneg (x / (2 : Int) ^ k) (show (2 : Int) ≠ 0 by decide)
  have h2 := Int.emod_nonneg (y / (2 : Int) ^ k) (show (2 : Int) ≠ 0 by decide)
  omega
def ptB (p : Pt) : Bx := ⟨p.r, p.c, p.h, p.w⟩
def AheadAt (H : Hp) (p : Addr) (row col far px py : Int) : Prop := ∃ a1 a2 a3, H p = some (.lst [.ref a1, .ref a2, .ref a3]) ∧ BoxAt H a1 (ptB (pAbove row col far px)) ∧ BoxAt H a2 (ptB (pAmid row col far px)) ∧ BoxAt H a3 (ptB (pLine row col far px py))
theorem AheadAt.same {H H' : Hp} (s : Same H H') {p : Addr} {row col far px py : Int} (h : AheadAt H p row col far px py) : AheadAt H' p row col far px py := by
  obtain ⟨a1, a2, a3, h0, h1, h2, h3⟩ := h
  exact ⟨a1, a2, a3, s _ _ h0, s _ _ h1, s _ _ h2, s _ _ h3⟩
section
variable {P : Program} {w : World} {K : PySem.W.Frag} {mg : Str → Option Value} {base : Heap} {C : Addr}
def spLeaf : Sp := fun vs H Q _ => ∃ (a : Addr) (n tp : Nat) (R : List Qd) (x y : Int), vs = [.ref a, .int x, .int y] ∧ TellAt H a n tp R ∧ Shp n tp R ∧
  ∀ p H', Same H H' → H' p = some (.tup [.str (strOf (lf R x y n tp []).1), .int ((lf R x y n tp []).2 : Nat)]) → Q (.ref p) H'
/-! _law_leaf: slots 0 _law_told, 1 _law_row, 2 _law_column, 3 _law_n, 4 _law_number_here, 5 _law_rows, 6 _law_address, 7 _law_k, 8 _law_quarter -/
abbrev s_L_leaf : Stmt := top 49
theorem sc_L_leaf : FnScope ["_law_told", "_law_row", "_law_column", "_law_n", "_law_number_here", "_law_rows", "_law_address", "_law_k", "_law_quarter"] ["_law_told", "_law_row", "_law_column"] (defScope s_L_leaf) := ⟨rfl, rfl, rfl, by decide +kernel, rfl, by decide +kernel, by decide +kernel⟩
theorem c_L_leaf (T : Txt K mg C) : Cal P w K mg base 1 "_law_leaf" spLeaf := by
  refine T.d_L_leaf.cal sc_L_leaf (fun vs H Q E h => ?_) (fun f cdv A outer s H vs Q E hr h => ?_)
  · obtain ⟨a, n, tp, R, x, y, rfl, _⟩ := h
    rfl
  obtain ⟨a, n, tp, R, x, y, rfl, ⟨ra, bs, ha, hra, hR⟩, hS, q⟩ := h
  have n12 := hS.n12
  have hlt := hS.lt
  have two : 2 ≤ sizeLine := by decide
  refine ⟨_, (pss_cons (ps_asg (pv 0) (pg_tup rfl (pgs_cons (pg_name (i := 3) sc_L_leaf.nd rfl (Or.inl rfl)) (pgs_cons (pg_name (i := 4) sc_L_leaf.nd rfl (Or.inl rfl)) (pgs_cons (pg_name (i := 5) sc_L_leaf.nd rfl (Or.inl rfl)) pgs_nil)))))
    (pss_cons (ps_set (i := 6) sc_L_leaf.nd rfl (Or.inl rfl) pe_str)
    (pss_cons (ps_for PassesOwn.never rfl (pi_range3 (by rfl) T.b_range (pa_cons (pe_op op_sub (pv 3) pe_int) (pa_cons (pe_un un_neg pe_int) (pa_cons (pe_un un_neg pe_int) pa_nil)))) (pg_name (i := 7) sc_L_leaf.nd rfl (Or.inl rfl))
      (pss_one (ps_if (pt_cmpR op_gt (pv 4) pe_int (nomark _))
        (pss_cons (ps_set (i := 8) sc_L_leaf.nd rfl (Or.inl rfl) (pe_op op_add (pe_op op_mul pe_int (pe_op op_and (pe_op op_shr (pv 1) (pv 7)) pe_int)) (pe_op op_and (pe_op op_shr (pv 2) (pv 7)) pe_int)))
        (pss_cons (ps_set (i := 4) sc_L_leaf.nd rfl (Or.inl rfl) (pe_ix ix_tup (pe_ix ix_tup (pv 5) (pe_op op_sub (pv 4) pe_int) (fun _ _ => rfl)) (pv 8) (fun _ _ => rfl)))
        (pss_one (ps_set (i := 6) sc_L_leaf.nd rfl (Or.inl rfl) (pe_op op_add_str (pv 6) (pe_ix ix_str pe_str (pv 8) (fun _ _ => rfl)))))))
        pss_nil)))
    (pss_one (ps_ret (pe_tup (pa_cons (pv 6) (pa_cons (pv 4) pa_nil)))))))), ?_⟩
  refine ⟨_, rfl, a, _, rfl, SqT.of ha, rfl, _, _, rfl, _, _, rfl, _, _, rfl, rfl, ?_⟩
  refine ⟨_, rfl, _, _, rfl, rfl, _, rfl, _, rfl, _, _, _, _, rfl, RgC.neg (by omega) (by omega) (by decide) (by decide), ?_⟩
  have en : (((n : Int) - 1) - (-1)).toNat = n := by omega
  rw [en]
  refine for_it walk_rangeC (fun i σ H' => Same H H' ∧ ∃ v7 v8, σ = [some (.ref a), some (.int x), some (.int y), some (.int n), some (.int ((lfS R x y n tp i).1 : Nat)), some (.ref ra), some (.str (strOf (lfS R x y n tp i).2)), v7, v8])
    ⟨Same.refl _, none, none, rfl⟩ (fun _ _ _ _ _ => trivial) ?_ ?_
  · rintro i z σ H1 H2 hi ⟨s1, v7, v8, rfl⟩ ⟨rfl, rfl⟩
    have ex : (fun i : Nat => V.int (((n : Int) - 1) + (i : Nat) * (-1))) i = V.int ((n - 1 - i : Nat) : Int) := congrArg V.int (by omega)
    rw [ex]
    have lt1 := lfS_lt hS.gd x y n tp (by omega) i
    have ln1 := lfS_len R x y n tp i
    have eS : lfS R x y n tp (i + 1) = if 1 < (lfS R x y n tp i).1 then (qat (R.getD ((lfS R x y n tp i).1 - 2) q0) (qof x y (n - 1 - i)), (lfS R x y n tp i).2 ++ [48 + qof x y (n - 1 - i)]) else lfS R x y n tp i := rfl
    rw [eS]
    generalize lfS R x y n tp i = X at lt1 ln1
    obtain ⟨m, ad⟩ := X
    dsimp only at lt1 ln1 ⊢
    refine ⟨_, rfl, _, _, rfl, rfl, _, rfl, ite2 (fun c => ?_) (fun c => ?_)⟩
    · have c' : (m : Int) > 1 := of_decide_eq_true c
      have c2 : 1 < m := by omega
      rw [if_pos c2]
      have hq : R[m - 2]? = some R[m - 2] := List.getElem?_eq_getElem (by omega)
      have eg : R.getD (m - 2) q0 = R[m - 2] := by rw [List.getD_eq_getElem?_getD, hq]; rfl
      obtain ⟨rb, hrb, hrow⟩ := hR.get hq
      have em : (m : Int) - 2 = ((m - 2 : Nat) : Int) := by omega
      have atr : atI (bs.map V.ref) ((m : Int) - 2) = some (.ref rb) := by
        rw [em]
        exact atI_nat (by rw [List.getElem?_map, hrb]; rfl)
      refine ⟨_, rfl, _, rfl, _, _, rfl, rfl, by show (0 : Int) ≤ ((n - 1 - i : Nat) : Int); omega, _, _, rfl, rfl, _, _, rfl, rfl, .inl (by decide), _, rfl, _, rfl, _, _, rfl, rfl, by show (0 : Int) ≤ ((n - 1 - i : Nat) : Int); omega, _, _, rfl, rfl, _, _, rfl, rfl, ?_⟩
      have eq4 : (fun i j : Int => V.int (i + j)) (2 * Builtin.bitAnd (x / 2 ^ ((n - 1 - i : Nat) : Int).toNat) 1) (Builtin.bitAnd (y / 2 ^ ((n - 1 - i : Nat) : Int).toNat) 1) = V.int ((qof x y (n - 1 - i) : Nat) : Int) := by
        rw [PyProof.Rows.bitAnd_m1, PyProof.Rows.bitAnd_m1, Int.toNat_natCast]
        exact congrArg V.int (qof_int x y _)
      rw [eq4]
      have q4 := qof_lt x y (n - 1 - i)
      generalize qof x y (n - 1 - i) = j at q4
      refine ⟨_, rfl, _, rfl, _, _, rfl, rfl, ra, _, _, _, rfl, rfl, SqT.of (s1 _ _ hra), atr, _, rfl, rb, _, _, _, rfl, rfl, SqT.of (s1 _ _ hrow), qat_at q4, ?_⟩
      refine ⟨_, rfl, _, rfl, _, _, _, rfl, rfl, by decide, fig_in4 q4, _, _, rfl, rfl, ?_, ?_⟩
      · show ad.toArray.size + 1 ≤ sizeLine
        exact sz_le (by simp; omega)
      · rw [strOf_snoc, eg]
        exact ⟨s1, _, _, rfl⟩
    · have c2 : ¬ 1 < m := fun z => c (decide_eq_true (by show (m : Int) > 1; omega))
      rw [if_neg c2]
      exact ⟨s1, _, _, rfl⟩
  · rintro σ H1 ⟨s1, v7, v8, rfl⟩
    have el := lfS_lf R x y n tp n (Nat.le_refl _)
    rw [Nat.sub_self] at el
    have el' : ((lfS R x y n tp n).2, (lfS R x y n tp n).1) = lf R x y n tp [] := el
    refine ⟨_, rfl, _, rfl, two, fun p hp => q p _ (same_then s1 hp _) ?_⟩
    rw [upd_same, ← el']
def spSquare : Sp := fun vs H Q _ => ∃ (n : Nat) (ad : List Nat), vs = [.int n, .str (strOf ad)] ∧ n ≤ 12 ∧ Figs n ad ∧
  ∀ p H', Same H H' → H' p = some (.tup [.int (sqOf n ad).1, .int (sqOf n ad).2.1, .int (sqOf n ad).2.2]) → Q (.ref p) H'
/-! _law_square: slots 0 _law_n, 1 _law_address, 2 _law_row, 3 _law_column, 4 _law_side, 5 _law_figure -/
abbrev s_L_square : Stmt := top 50
theorem sc_L_square : FnScope ["_law_n", "_law_address", "_law_row", "_law_column", "_law_side", "_law_figure"] ["_law_n", "_law_address"] (defScope s_L_square) := ⟨rfl, rfl, rfl, by decide +kernel, rfl, by decide +kernel, by decide +kernel⟩
theorem c_L_square (T : Txt K mg C) : Cal P w K mg base 1 "_law_square" spSquare := by
  refine T.d_L_square.cal sc_L_square (fun vs H Q E h => ?_) (fun f cdv A outer s H vs Q E hr h => ?_)
  · obtain ⟨n, ad, rfl, _⟩ := h
    rfl
  obtain ⟨n, ad, rfl, hn, ⟨hl, hf⟩, q⟩ := h
  refine ⟨_, (pss_cons (ps_set (i := 2) sc_L_square.nd rfl (Or.inl rfl) pe_int)
    (pss_cons (ps_set (i := 3) sc_L_square.nd rfl (Or.inl rfl) pe_int)
    (pss_cons (ps_set (i := 4) sc_L_square.nd rfl (Or.inl rfl) (pe_op op_shl pe_int (pv 0)))
    (pss_cons (ps_for PassesOwn.never rfl (pi_str (pv 1)) (pg_name (i := 5) sc_L_square.nd rfl (Or.inl rfl))
      (pss_cons (ps_set (i := 4) sc_L_square.nd rfl (Or.inl rfl) (pe_op op_fdiv (pv 4) pe_int))
      (pss_cons (ps_set (i := 2) sc_L_square.nd rfl (Or.inl rfl) (pe_op op_add (pv 2) (pe_op op_mul (pv 4) (pe_callTy call_int1 (by rfl) T.b_int (by decide +kernel) (pa_cons (pe_cmpR op_in_sign (pv 5) pe_str rfl) pa_nil)))))
      (pss_one (ps_set (i := 3) sc_L_square.nd rfl (Or.inl rfl) (pe_op op_add (pv 3) (pe_op op_mul (pv 4) (pe_callTy call_int1 (by rfl) T.b_int (by decide +kernel) (pa_cons (pe_cmpR op_in_sign (pv 5) pe_str rfl) pa_nil)))))))))
    (pss_one (ps_ret (pe_tup (pa_cons (pv 2) (pa_cons (pv 3) (pa_cons (pv 4) pa_nil)))))))))), ?_⟩
  refine ⟨_, rfl, _, _, rfl, rfl, ⟨by omega, by omega, by decide⟩, ?_⟩
  have e0 : (1 : Int) * 2 ^ (n : Int).toNat = (2 : Int) ^ n := by rw [Int.one_mul]; rfl
  have z0 := two_pow_pos n
  have z1 := pow_le_4096 hn
  refine ⟨_, rfl, strOf ad, rfl, for_it walk_str (fun i σ H' => Same H H' ∧ ∃ v5, σ = [some (.int n), some (.str (strOf ad)), some (.int ((ad.take i).foldl sqStep (0, 0, (2 : Int) ^ n)).1), some (.int ((ad.take i).foldl sqStep (0, 0, (2 : Int) ^ n)).2.1), some (.int ((ad.take i).foldl sqStep (0, 0, (2 : Int) ^ n)).2.2), v5])
    ⟨Same.refl _, none, by show ([some (.int n), some (.str (strOf ad)), some (.int 0), some (.int 0), some (.int (1 * 2 ^ (n : Int).toNat)), none] : List (Option V)) = _; rw [e0]; rfl⟩ (fun _ _ _ _ _ => trivial) ?_ ?_⟩
  · rintro i x σ H2 H3 hi ⟨s2, v5, rfl⟩ ⟨rfl, c, hc, rfl⟩
    have hci : ad[i]? = some c := by
      have : (strOf ad).cps.toList[i]? = some c := by rw [Array.getElem?_toList]; exact hc
      exact this
    have hcf := hf c (List.mem_of_getElem? hci)
    rw [take_snoc hci, List.foldl_append]
    generalize hX : (ad.take i).foldl sqStep (0, 0, (2 : Int) ^ n) = X
    have hs := sq_size (ad.take i) (0, 0, (2 : Int) ^ n) (Int.le_of_lt z0) z1
    rw [hX] at hs
    obtain ⟨X1, X2, X3⟩ := X
    dsimp only at hs
    have cmS : ∀ z, CMul (X3 / 2) z := fun z => .inl ⟨by omega, by omega⟩
    refine ⟨_, rfl, _, _, rfl, rfl, ⟨by decide, by decide⟩, ?_⟩
    refine ⟨_, rfl, _, rfl, _, rfl, c, _, rfl, rfl, .inr ⟨_, rfl, ?_⟩⟩
    rw [fig23 hcf]
    refine ⟨_, _, rfl, rfl, cmS _, _, _, rfl, rfl, ?_⟩
    refine ⟨_, rfl, _, rfl, _, rfl, c, _, rfl, rfl, .inr ⟨_, rfl, ?_⟩⟩
    rw [fig13 hcf]
    refine ⟨_, _, rfl, rfl, cmS _, _, _, rfl, rfl, ?_⟩
    exact ⟨s2, _, rfl⟩
  · rintro σ H2 ⟨s2, v5, rfl⟩
    have e : ad.take (strOf ad).cps.size = ad := by
      have : (strOf ad).cps.size = ad.length := rfl
      rw [this, List.take_length]
    rw [e]
    refine ⟨_, rfl, _, rfl, _, rfl, (by show 3 ≤ sizeLine; decide), fun p hp => ?_⟩
    exact q p _ (same_then s2 hp _) upd_same
def spCommon : Sp := fun vs H Q _ => ∃ (a b : Addr) (x : Bx) (r c s : Int), vs = [.ref a, .ref b] ∧ BoxAt H a x ∧ BoxAt H b ⟨r, c, s, s⟩ ∧ 0 ≤ s ∧ s ≤ 4096 ∧ Q (.int (ar x.r x.h x.c x.w r c s)) H
/-! _law_common: slots 0 _law_box_here, 1 _law_other, 2 _law_high, 3 _law_wide -/
abbrev s_L_common : Stmt := top 52
theorem sc_L_common : FnScope ["_law_box_here", "_law_other", "_law_high", "_law_wide"] ["_law_box_here", "_law_other"] (defScope s_L_common) := ⟨rfl, rfl, rfl, by decide +kernel, rfl, by decide +kernel, by decide +kernel⟩
theorem c_L_common (T : Txt K mg C) : Cal P w K mg base 1 "_law_common" spCommon := by
  refine T.d_L_common.cal sc_L_common (fun vs H Q E h => ?_) (fun f cdv A outer s H vs Q E hr h => ?_)
  · obtain ⟨a, b, x, r, c, s, rfl, _⟩ := h
    rfl
  obtain ⟨a, b, x, r, c, z, rfl, ha, hb, z0, z1, q⟩ := h
  refine ⟨_, (pss_cons (ps_set (i := 2) sc_L_common.nd rfl (Or.inl rfl) (pe_op op_sub (pe_callB (call_mn2 rfl) (by rfl) T.b_min (by decide +kernel) (pa_cons (pe_op op_add (pe_ix ix_tup (pv 0) pe_int (fun _ _ => rfl)) (pe_ix ix_tup (pv 0) pe_int (fun _ _ => rfl))) (pa_cons (pe_op op_add (pe_ix ix_tup (pv 1) pe_int (fun _ _ => rfl)) (pe_ix ix_tup (pv 1) pe_int (fun _ _ => rfl))) pa_nil))) (pe_callB (call_mx2 rfl) (by rfl) T.b_max (by decide +kernel) (pa_cons (pe_ix ix_tup (pv 0) pe_int (fun _ _ => rfl)) (pa_cons (pe_ix ix_tup (pv 1) pe_int (fun _ _ => rfl)) pa_nil)))))
    (pss_cons (ps_set (i := 3) sc_L_common.nd rfl (Or.inl rfl) (pe_op op_sub (pe_callB (call_mn2 rfl) (by rfl) T.b_min (by decide +kernel) (pa_cons (pe_op op_add (pe_ix ix_tup (pv 0) pe_int (fun _ _ => rfl)) (pe_ix ix_tup (pv 0) pe_int (fun _ _ => rfl))) (pa_cons (pe_op op_add (pe_ix ix_tup (pv 1) pe_int (fun _ _ => rfl)) (pe_ix ix_tup (pv 1) pe_int (fun _ _ => rfl))) pa_nil))) (pe_callB (call_mx2 rfl) (by rfl) T.b_max (by decide +kernel) (pa_cons (pe_ix ix_tup (pv 0) pe_int (fun _ _ => rfl)) (pa_cons (pe_ix ix_tup (pv 1) pe_int (fun _ _ => rfl)) pa_nil)))))
    (pss_one (ps_ret (pe_op op_mul (pe_callB (call_mx2 rfl) (by rfl) T.b_max (by decide +kernel) (pa_cons pe_int (pa_cons (pv 2) pa_nil))) (pe_callB (call_mx2 rfl) (by rfl) T.b_max (by decide +kernel) (pa_cons pe_int (pa_cons (pv 3) pa_nil)))))))), ?_⟩
  refine ⟨_, rfl, a, _, 0, _, rfl, rfl, SqT.of ha, rfl, _, rfl, a, _, 2, _, rfl, rfl, SqT.of ha, rfl, _, _, rfl, rfl, _, rfl, b, _, 0, _, rfl, rfl, SqT.of hb, rfl, _, rfl, b, _, 2, _, rfl, rfl, SqT.of hb, rfl, _, _, rfl, rfl, _, _, rfl, _, rfl, a, _, 0, _, rfl, rfl, SqT.of ha, rfl, _, rfl, b, _, 0, _, rfl, rfl, SqT.of hb, rfl, _, _, rfl, _, _, rfl, rfl, ?_⟩
  refine ⟨_, rfl, a, _, 1, _, rfl, rfl, SqT.of ha, rfl, _, rfl, a, _, 3, _, rfl, rfl, SqT.of ha, rfl, _, _, rfl, rfl, _, rfl, b, _, 1, _, rfl, rfl, SqT.of hb, rfl, _, rfl, b, _, 3, _, rfl, rfl, SqT.of hb, rfl, _, _, rfl, rfl, _, _, rfl, _, rfl, a, _, 1, _, rfl, rfl, SqT.of ha, rfl, _, rfl, b, _, 1, _, rfl, rfl, SqT.of hb, rfl, _, _, rfl, _, _, rfl, rfl, ?_⟩
  refine ⟨_, rfl, _, _, rfl, _, rfl, _, _, rfl, _, _, rfl, rfl, .inl ⟨by dsimp only; omega, by dsimp only; omega⟩, q⟩
def spShare : Sp := fun vs H Q _ => ∃ (p b : Addr) (row col far px py r c s : Int), vs = [.ref p, .ref b] ∧ AheadAt H p row col far px py ∧ BoxAt H b ⟨r, c, s, s⟩ ∧ 0 ≤ s ∧ s ≤ 4096 ∧ ∀ H', Same H H' → Q (.int (share row col far px py r c s)) H'
/-! _law_share: slots 0 _law_ahead_here, 1 _law_box_here, 2 _law_part; cells _law_box_here -/
abbrev s_L_share : Stmt := top 54
theorem sc_L_share : FnScope ["_law_ahead_here", "_law_box_here", "_law_part"] ["_law_ahead_here", "_law_box_here"] (defScope s_L_share) := ⟨rfl, rfl, rfl, by decide +kernel, rfl, by decide +kernel, by decide +kernel⟩
theorem c_L_share (T : Txt K mg C) : Cal P w K mg base 2 "_law_share" spShare := by
  have G_L_common := c_L_common (P := P) (w := w) (base := base) T
  refine T.d_L_share.cal sc_L_share (fun vs H Q E h => ?_) (fun f cdv A outer s H vs Q E hr h => ?_)
  · obtain ⟨p, b, row, col, far, px, py, r, c, s, rfl, _⟩ := h
    rfl
  obtain ⟨p, b, row, col, far, px, py, r, c, z, rfl, ⟨a1, a2, a3, hp, h1, h2, h3⟩, hb, z0, z1, q⟩ := h
  refine ⟨_, (pss_one (ps_ret (pe_callB (cr_sum rfl) (by rfl) T.b_sum (by decide +kernel) (pa_cons (pe_lc (own := [("_law_part", 2)]) (g := gName 2) rfl sc_L_share.nd (pi_list (pv 0)) (blkOk_by (N := ["_law_ahead_here", "_law_box_here", "_law_part"]) (sc := defScope s_L_share) (by decide +kernel)) (fun _ _ _ _ _ => (pg_name (i := 2) sc_L_share.nd rfl (Or.inl rfl))) (fun _ _ _ _ _ => pts_nil) (fun _ _ _ _ _ => (pe_c G_L_common hr (by decide) (by rfl) (pa_cons (pv 2) (pa_cons (pv 1) pa_nil))))) pa_nil)))), ?_⟩
  have part : ∀ (i : Nat) (v : V), ([V.ref a1, V.ref a2, V.ref a3] : List V)[i]? = some v → ∃ a x, v = .ref a ∧ BoxAt H a x ∧ i < 3 ∧ ar x.r x.h x.c x.w r c z = [cm (pAbove row col far px) r c z, cm (pAmid row col far px) r c z, cm (pLine row col far px py) r c z].getD i 0 := by
    intro i v hv
    match i, hv with
    | 0, hv => exact ⟨a1, _, by simpa using hv.symm, h1, by omega, rfl⟩
    | 1, hv => exact ⟨a2, _, by simpa using hv.symm, h2, by omega, rfl⟩
    | 2, hv => exact ⟨a3, _, by simpa using hv.symm, h3, by omega, rfl⟩
    | k + 3, hv => simp at hv
  refine ⟨_, rfl, p, rfl, ⟨_, SqL.of hp⟩, fun D hD => ?_⟩
  refine lc_it (walk_list (xs := [V.ref a1, V.ref a2, V.ref a3])) (fun i H' => Same H H' ∧ H' D = some (.lst (([cm (pAbove row col far px) r c z, cm (pAmid row col far px) r c z, cm (pLine row col far px py) r c z].take i).map V.int))) ⟨same_new hD _, upd_same⟩ (fun _ _ _ ⟨s1, _⟩ => SqL.of (s1 _ _ hp)) ?_ ?_
  · rintro i v H1 H2 hi ⟨s1, hD1⟩ ⟨rfl, hv⟩
    obtain ⟨a, x, rfl, hx, hi3, ev⟩ := part i v hv
    refine ⟨rfl, ?_⟩
    refine ⟨_, rfl, _, rfl, a, b, x, r, c, z, rfl, s1 _ _ hx, s1 _ _ hb, z0, z1, _, hD1, ?_, ?_⟩
    · rw [List.length_map, List.length_take]
      exact sz_lt (by simp; omega)
    · refine ⟨same_mut s1 hD _, ?_⟩
      rw [upd_same, ev, take_snoc (x := [cm (pAbove row col far px) r c z, cm (pAmid row col far px) r c z, cm (pLine row col far px py) r c z].getD i 0), List.map_append]
      · rfl
      · rw [List.getD_eq_getElem?_getD, List.getElem?_eq_getElem (by simp; omega)]
        rfl
  · rintro H1 ⟨s1, hD1⟩
    have e : (([cm (pAbove row col far px) r c z, cm (pAmid row col far px) r c z, cm (pLine row col far px py) r c z].take 3).map V.int) = ([cm (pAbove row col far px) r c z, cm (pAmid row col far px) r c z, cm (pLine row col far px py) r c z]).map V.int := rfl
    refine ⟨D, _, rfl, SqL.of hD1, ?_⟩
    have es : (([cm (pAbove row col far px) r c z, cm (pAmid row col far px) r c z, cm (pLine row col far px py) r c z].take 3)).sum = share row col far px py r c z := by
      show [cm (pAbove row col far px) r c z, cm (pAmid row col far px) r c z, cm (pLine row col far px py) r c z].sum = _
      unfold share
      simp only [List.sum_cons, List.sum_nil]
      omega
    have := q H1 s1
    rw [← es] at this
    exact this
def spAhead : Sp := fun vs H Q _ => ∃ (pl : Addr) (row col far px py : Int), vs = [.int row, .int col, .int far, .ref pl] ∧ H pl = some (.tup [.int px, .int py]) ∧ ∀ p H', Same H H' → AheadAt H' p row col far px py → Q (.ref p) H'
/-! _law_ahead: slots 0 _law_row, 1 _law_column, 2 _law_far, 3 _law_place, 4 _law_above, 5 _law_first, 6 _law_amid, 7 _law_wide -/
abbrev s_L_ahead : Stmt := top 53
theorem sc_L_ahead : FnScope ["_law_row", "_law_column", "_law_far", "_law_place", "_law_above", "_law_first", "_law_amid", "_law_wide"] ["_law_row", "_law_column", "_law_far", "_law_place"] (defScope s_L_ahead) := ⟨rfl, rfl, rfl, by decide +kernel, rfl, by decide +kernel, by decide +kernel⟩
theorem c_L_ahead (T : Txt K mg C) : Cal P w K mg base 1 "_law_ahead" spAhead := by
  refine T.d_L_ahead.cal sc_L_ahead (fun vs H Q E h => ?_) (fun f cdv A outer s H vs Q E hr h => ?_)
  · obtain ⟨pl, row, col, far, px, py, rfl, _⟩ := h
    rfl
  obtain ⟨pl, row, col, far, px, py, rfl, hpl, q⟩ := h
  have four' : 4 ≤ sizeLine := by decide
  have three : 3 ≤ sizeLine := by decide
  refine ⟨_, (pss_cons (ps_set (i := 4) sc_L_ahead.nd rfl (Or.inl rfl) (pe_tup (pa_cons (pe_op op_sub (pv 0) (pv 2)) (pa_cons (pe_op op_sub (pv 1) (pv 2)) (pa_cons (pe_op op_add (pe_op op_sub (pe_ix ix_tup (pv 3) pe_int (fun _ _ => rfl)) (pv 0)) (pv 2)) (pa_cons (pe_op op_add (pe_op op_mul pe_int (pv 2)) pe_int) pa_nil))))))
    (pss_cons (ps_set (i := 5) sc_L_ahead.nd rfl (Or.inl rfl) (pe_callB (call_mx2 rfl) (by rfl) T.b_max (by decide +kernel) (pa_cons (pe_ix ix_tup (pv 3) pe_int (fun _ _ => rfl)) (pa_cons (pe_op op_add (pe_op op_sub (pv 0) (pv 2)) pe_int) pa_nil))))
    (pss_cons (ps_set (i := 6) sc_L_ahead.nd rfl (Or.inl rfl) (pe_tup (pa_cons (pv 5) (pa_cons (pe_op op_add (pe_op op_sub (pv 1) (pv 2)) pe_int) (pa_cons (pe_op op_sub (pe_op op_add (pv 0) (pv 2)) (pv 5)) (pa_cons (pe_op op_sub (pe_op op_mul pe_int (pv 2)) pe_int) pa_nil))))))
    (pss_cons (ps_set (i := 7) sc_L_ahead.nd rfl (Or.inl rfl) (pe_op op_add (pe_op op_sub (pe_ix ix_tup (pv 3) pe_int (fun _ _ => rfl)) (pv 1)) (pv 2)))
    (pss_cons (ps_if (pt_cmpR op_lt (pe_callB call_ab (by rfl) T.b_abs (by decide +kernel) (pa_cons (pe_op op_sub (pe_ix ix_tup (pv 3) pe_int (fun _ _ => rfl)) (pv 0)) pa_nil)) (pv 2) (nomark _))
      (pss_one (ps_set (i := 7) sc_L_ahead.nd rfl (Or.inl rfl) (pe_callB (call_mn2 rfl) (by rfl) T.b_min (by decide +kernel) (pa_cons pe_int (pa_cons (pv 7) pa_nil)))))
      pss_nil)
    (pss_one (ps_ret (pe_lst (pa_cons (pv 4) (pa_cons (pv 6) (pa_cons (pe_tup (pa_cons (pe_ix ix_tup (pv 3) pe_int (fun _ _ => rfl)) (pa_cons (pe_op op_sub (pv 1) (pv 2)) (pa_cons pe_int (pa_cons (pv 7) pa_nil))))) pa_nil))))))))))), ?_⟩
  refine ⟨_, rfl, _, rfl, _, _, rfl, rfl, _, rfl, _, rfl, _, _, rfl, rfl, _, rfl, pl, _, 0, _, rfl, rfl, SqT.of hpl, rfl, _, rfl, _, _, rfl, rfl, _, rfl, _, _, rfl, rfl, _, rfl, _, _, rfl, rfl, .inl (by decide), _, _, rfl, rfl, four', fun a1 g1 => ?_⟩
  have s1 := same_new g1 (.tup [.int (row - far), .int (col - far), .int (px - row + far), .int (2 * far + 1)])
  have k1 : (upd H a1 (.tup [.int (row - far), .int (col - far), .int (px - row + far), .int (2 * far + 1)])) a1 = some (.tup [.int (row - far), .int (col - far), .int (px - row + far), .int (2 * far + 1)]) := upd_same
  refine ⟨_, rfl, pl, _, 0, _, rfl, rfl, SqT.of (s1 _ _ hpl), rfl, _, rfl, _, rfl, _, _, rfl, rfl, _, _, rfl, rfl, _, _, rfl, ?_⟩
  refine ⟨_, rfl, _, rfl, _, rfl, _, _, rfl, rfl, _, _, rfl, rfl, _, rfl, _, rfl, _, _, rfl, rfl, _, rfl, _, _, rfl, rfl, _, rfl, _, _, rfl, rfl, .inl (by decide), _, _, rfl, rfl, four', fun a2 g2 => ?_⟩
  have s2 := same_new g2 (.tup [.int (max px (row - far + 1)), .int (col - far + 1), .int (row + far - max px (row - far + 1)), .int (2 * far - 1)])
  have s12 := s1.trans s2
  refine ⟨_, rfl, pl, _, 1, _, rfl, rfl, SqT.of (s12 _ _ hpl), rfl, _, rfl, _, _, rfl, rfl, _, rfl, _, _, rfl, rfl, ?_⟩
  refine ⟨_, rfl, pl, _, 0, _, rfl, rfl, SqT.of (s12 _ _ hpl), rfl, _, rfl, _, _, rfl, rfl, _, rfl, _, rfl, _, _, rfl, rfl, _, rfl, ite2 (fun c => ?_) (fun c => ?_)⟩
  · have c' : absI (px - row) < far := of_decide_eq_true c
    refine ⟨_, rfl, _, _, rfl, ?_⟩
    refine ⟨_, rfl, _, rfl, _, rfl, pl, _, 0, _, rfl, rfl, SqT.of (s12 _ _ hpl), rfl, _, rfl, _, rfl, _, _, rfl, rfl, _, rfl, four', fun a3 g3 => ⟨three, fun p hp => ?_⟩⟩
    have s3 := same_new g3 (.tup [.int px, .int (col - far), .int 1, .int (min 1 (py - col + far))])
    have s4 := same_new hp (.lst [.ref a1, .ref a2, .ref a3])
    refine q p _ ((s12.trans s3).trans s4) ⟨a1, a2, a3, upd_same, s4 _ _ (s3 _ _ (s2 _ _ k1)), s4 _ _ (s3 _ _ upd_same), s4 _ _ ?_⟩
    rw [upd_same]
    unfold ptB pLine
    rw [if_pos c']
  · have c' : ¬ absI (px - row) < far := fun z => c (decide_eq_true z)
    refine ⟨_, rfl, _, rfl, _, rfl, pl, _, 0, _, rfl, rfl, SqT.of (s12 _ _ hpl), rfl, _, rfl, _, rfl, _, _, rfl, rfl, _, rfl, four', fun a3 g3 => ⟨three, fun p hp => ?_⟩⟩
    have s3 := same_new g3 (.tup [.int px, .int (col - far), .int 1, .int (py - col + far)])
    have s4 := same_new hp (.lst [.ref a1, .ref a2, .ref a3])
    refine q p _ ((s12.trans s3).trans s4) ⟨a1, a2, a3, upd_same, s4 _ _ (s3 _ _ (s2 _ _ k1)), s4 _ _ (s3 _ _ upd_same), s4 _ _ ?_⟩
    rw [upd_same]
    unfold ptB pLine
    rw [if_neg c']
/-! ### the place -/
def spNearBox : Sp := fun vs H Q _ => ∃ (p bl : Addr) (n : Nat) (bs : List Addr) (xs : List Bx), vs = [.ref p, .ref bl, .int n] ∧ PotAt H p ∧ bl ≠ p ∧ H bl = some (.lst (bs.map V.ref)) ∧ Each BoxAt H bs xs ∧ xs.length ≤ 5 ∧ n ≤ 12 ∧
  ∀ t r c H', But [p] H H' → PotAt H' p → H' t = some (.tup [.int r, .int c]) → 0 ≤ r → r < (2 : Int) ^ n → 0 ≤ c → c < (2 : Int) ^ n → Q (.ref t) H'
theorem pick2 {h d : Int} (d0 : 0 ≤ d) (d2 : d < 2) : ∃ z, atI [V.int 0, V.int h] d = some (.int z) := by
  have : d = 0 ∨ d = 1 := by omega
  rcases this with rfl | rfl
  · exact ⟨0, rfl⟩
  · exact ⟨h, rfl⟩
/-! _law_near_box: slots 0 _law_pot_here, 1 _law_boxes_here, 2 _law_n, 3 _law_row, 4 _law_column, 5 _law_box_here -/
abbrev s_L_near_box : Stmt := top 51
theorem sc_L_near_box : FnScope ["_law_pot_here", "_law_boxes_here", "_law_n", "_law_row", "_law_column", "_law_box_here"] ["_law_pot_here", "_law_boxes_here", "_law_n"] (defScope s_L_near_box) := ⟨rfl, rfl, rfl, by decide +kernel, rfl, by decide +kernel, by decide +kernel⟩
theorem c_L_near_box (T : Txt K mg C) : Cal P w K mg base 2 "_law_near_box" spNearBox := by
  have G_L_digit := c_L_digit (P := P) (w := w) (base := base) T
  refine T.d_L_near_box.cal sc_L_near_box (fun vs H Q E h => ?_) (fun f cdv A outer s H vs Q E hr h => ?_)
  · obtain ⟨p, bl, n, bs, xs, rfl, _⟩ := h
    rfl
  obtain ⟨p, bl, n, bs, xs, rfl, hp, nbp, hbl, hbs, hx5, n12, q⟩ := h
  have two : 2 ≤ sizeLine := by decide
  have c1 : CPow 1 (n : Int) := ⟨by omega, by omega, by decide⟩
  have pw : ∀ k : Nat, k ≤ 12 → (0 : Int) < 1 * 2 ^ ((k : Nat) : Int).toNat ∧ (1 : Int) * 2 ^ ((k : Nat) : Int).toNat < 1073741824 := by decide
  obtain ⟨pn1, pn2⟩ := pw n n12
  have ep : (1 : Int) * 2 ^ ((n : Nat) : Int).toNat = (2 : Int) ^ n := by rw [pow_pos', Int.toNat_natCast]
  refine ⟨_, (pss_cons (ps_set (i := 3) sc_L_near_box.nd rfl (Or.inl rfl) (pe_c G_L_digit hr (by decide) (by rfl) (pa_cons (pv 0) (pa_cons (pe_op op_shl pe_int (pv 2)) pa_nil))))
    (pss_cons (ps_set (i := 4) sc_L_near_box.nd rfl (Or.inl rfl) (pe_c G_L_digit hr (by decide) (by rfl) (pa_cons (pv 0) (pa_cons (pe_op op_shl pe_int (pv 2)) pa_nil))))
    (pss_cons (ps_if (PW.pt (pw_and (pt_cmpR (op_neD hr.units) (pv 1) (pe_lst pa_nil) (nomark _)) (pw_and1 (pt_cmpR op_gt (pe_c G_L_digit hr (by decide) (by rfl) (pa_cons (pv 0) (pa_cons pe_int pa_nil))) pe_int (nomark _)))))
      (pss_cons (ps_set (i := 5) sc_L_near_box.nd rfl (Or.inl rfl) (pe_ix ix_list (pv 1) (pe_c G_L_digit hr (by decide) (by rfl) (pa_cons (pv 0) (pa_cons (pe_callB call_len_seq (by rfl) T.b_len (by decide +kernel) (pa_cons (pv 1) pa_nil)) pa_nil))) (fun _ _ => rfl)))
      (pss_cons (ps_set (i := 3) sc_L_near_box.nd rfl (Or.inl rfl) (pe_callB (call_mn2 rfl) (by rfl) T.b_min (by decide +kernel) (pa_cons (pe_callB (call_mx2 rfl) (by rfl) T.b_max (by decide +kernel) (pa_cons (pe_op op_sub (pe_op op_add (pe_ix ix_tup (pv 5) pe_int (fun _ _ => rfl)) (pe_ix ix_list (pe_lst (pa_cons pe_int (pa_cons (pe_ix ix_tup (pv 5) pe_int (fun _ _ => rfl)) pa_nil))) (pe_c G_L_digit hr (by decide) (by rfl) (pa_cons (pv 0) (pa_cons pe_int pa_nil))) (fun _ _ => rfl))) (pe_c G_L_digit hr (by decide) (by rfl) (pa_cons (pv 0) (pa_cons pe_int pa_nil)))) (pa_cons pe_int pa_nil))) (pa_cons (pe_op op_sub (pe_op op_shl pe_int (pv 2)) pe_int) pa_nil))))
      (pss_one (ps_set (i := 4) sc_L_near_box.nd rfl (Or.inl rfl) (pe_callB (call_mn2 rfl) (by rfl) T.b_min (by decide +kernel) (pa_cons (pe_callB (call_mx2 rfl) (by rfl) T.b_max (by decide +kernel) (pa_cons (pe_op op_sub (pe_op op_add (pe_ix ix_tup (pv 5) pe_int (fun _ _ => rfl)) (pe_ix ix_list (pe_lst (pa_cons pe_int (pa_cons (pe_ix ix_tup (pv 5) pe_int (fun _ _ => rfl)) pa_nil))) (pe_c G_L_digit hr (by decide) (by rfl) (pa_cons (pv 0) (pa_cons pe_int pa_nil))) (fun _ _ => rfl))) (pe_c G_L_digit hr (by decide) (by rfl) (pa_cons (pv 0) (pa_cons pe_int pa_nil)))) (pa_cons pe_int pa_nil))) (pa_cons (pe_op op_sub (pe_op op_shl pe_int (pv 2)) pe_int) pa_nil)))))))
      pss_nil)
    (pss_one (ps_ret (pe_tup (pa_cons (pv 3) (pa_cons (pv 4) pa_nil)))))))), ?_⟩
  refine ⟨_, rfl, _, rfl, _, _, rfl, rfl, c1, p, _, rfl, hp, pn1, pn2, fun r H1 B1 p1 r0 r1 => ?_⟩
  refine ⟨_, rfl, _, rfl, _, _, rfl, rfl, c1, p, _, rfl, p1, pn1, pn2, fun c H2 B2 p2 c0 c1' => ?_⟩
  rw [ep] at r1 c1' pn1 pn2
  have B12 := B1.trans B2
  have keep : ∀ {H' : Hp}, But [p] H H' → H' bl = some (.lst (bs.map V.ref)) ∧ Each BoxAt H' bs xs := fun B => ⟨B _ _ (by simp [nbp]) hbl, hbs.mono fun b x h => (ts_pot B hp) _ _ h⟩
  have fin_ : ∀ (H' : Hp) (r c : Int), But [p] H H' → PotAt H' p → 0 ≤ r → r < (2 : Int) ^ n → 0 ≤ c → c < (2 : Int) ^ n → ∀ t, H' t = none → Q (.ref t) (upd H' t (.tup [.int r, .int c])) := fun H' r c B p' h1 h2 h3 h4 t ht =>
    q t r c _ (B.trans (.of (same_new ht _))) (p'.same (same_new ht _)) upd_same h1 h2 h3 h4
  refine ⟨_, rfl, Nat.zero_le _, fun e he => ?_⟩
  have s3 := same_new he (.lst [])
  obtain ⟨hb2, hx2⟩ := keep B12
  refine ⟨_, _, .lst (SqL.of (s3 _ _ hb2)) (dp_bxs (hx2.mono fun b x h => s3 _ _ h)), .lst (SqL.of upd_same) .nil, bxs_shaped _, nil_shaped, ?_⟩
  rw [bxs_eqv]
  have B3 := B12.trans (.of s3)
  have p3 := p2.same s3
  generalize upd H2 e (.lst []) = H3 at s3 B3 p3 ⊢
  refine ⟨_, rfl, ite2 (fun em => ?_) (fun em => ?_)⟩
  · refine ⟨_, rfl, p, _, rfl, p3, by decide, by decide, fun d H4 B4 p4 d0 d1 => ?_⟩
    have B04 := B3.trans B4
    refine ⟨_, _, rfl, rfl, _, rfl, ite2 (fun _ => ?_) (fun _ => ?_)⟩
    · obtain ⟨hb4, hx4⟩ := keep B04
      have em' : xs.isEmpty = false := by simpa using em
      have xpos : 0 < xs.length := by
        cases xs with
        | nil => cases em'
        | cons _ _ => simp
      have blen : (bs.map V.ref).length = xs.length := by rw [List.length_map, hbs.1]
      refine ⟨_, rfl, _, rfl, _, rfl, bl, _, rfl, .inl (SqL.of hb4), p, _, rfl, p4, by rw [blen]; omega, by rw [blen]; omega, fun d5 H5 B5 p5 d50 d51 => ?_⟩
      have B05 := B04.trans B5
      obtain ⟨hb5, hx5'⟩ := keep B05
      obtain ⟨j, rfl⟩ : ∃ k : Nat, d5 = (k : Int) := ⟨d5.toNat, by omega⟩
      rw [blen] at d51
      have hj : j < bs.length := by rw [hbs.1]; omega
      have hbj : bs[j]? = some bs[j] := List.getElem?_eq_getElem hj
      obtain ⟨x, hxj, hbx⟩ := hx5'.at hbj
      refine ⟨bl, _, _, _, rfl, rfl, SqL.of hb5, atI_nat (by rw [List.getElem?_map, hbj]; rfl), ?_⟩
      refine ⟨_, rfl, bs[j], _, 0, _, rfl, rfl, SqT.of hbx, rfl, _, rfl, bs[j], _, 2, _, rfl, rfl, SqT.of hbx, rfl, two, fun l1 g1 => ?_⟩
      have s6 := same_new g1 (.lst [.int 0, .int x.h])
      have n1 : l1 ≠ p := by
        obtain ⟨u, v, e, _⟩ := p5
        exact (ne_of_none e g1).symm
      refine ⟨_, rfl, p, _, rfl, p5.same s6, by decide, by decide, fun d6 H6 B6 p6 d60 d61 => ?_⟩
      obtain ⟨z6, hz6⟩ := pick2 (h := x.h) d60 d61
      have B06 := (B05.trans (.of s6)).trans B6
      refine ⟨l1, _, _, _, rfl, rfl, SqL.of (B6 _ _ (by simp [n1]) upd_same), hz6, _, _, rfl, rfl, _, rfl, p, _, rfl, p6, by decide, by decide, fun d7 H7 B7 p7 d70 d71 => ?_⟩
      have B07 := B06.trans B7
      refine ⟨_, _, rfl, rfl, _, _, rfl, _, rfl, _, _, rfl, rfl, c1, _, _, rfl, rfl, _, _, rfl, ?_⟩
      have hbx7 : BoxAt H7 bs[j] x := (keep B07).2.2 j _ x hbj hxj
      refine ⟨_, rfl, bs[j], _, 1, _, rfl, rfl, SqT.of hbx7, rfl, _, rfl, bs[j], _, 3, _, rfl, rfl, SqT.of hbx7, rfl, two, fun l2 g2 => ?_⟩
      have s8 := same_new g2 (.lst [.int 0, .int x.w])
      have n2 : l2 ≠ p := by
        obtain ⟨u, v, e, _⟩ := p7
        exact (ne_of_none e g2).symm
      refine ⟨_, rfl, p, _, rfl, p7.same s8, by decide, by decide, fun d8 H8 B8 p8 d80 d81 => ?_⟩
      obtain ⟨z8, hz8⟩ := pick2 (h := x.w) d80 d81
      have B08 := (B07.trans (.of s8)).trans B8
      refine ⟨l2, _, _, _, rfl, rfl, SqL.of (B8 _ _ (by simp [n2]) upd_same), hz8, _, _, rfl, rfl, _, rfl, p, _, rfl, p8, by decide, by decide, fun d9 H9 B9 p9 d90 d91 => ?_⟩
      have B09 := B08.trans B9
      refine ⟨_, _, rfl, rfl, _, _, rfl, _, rfl, _, _, rfl, rfl, c1, _, _, rfl, rfl, _, _, rfl, ?_⟩
      refine ⟨_, rfl, _, rfl, two, fun t ht => fin_ H9 _ _ B09 p9 ?_ ?_ ?_ ?_ t ht⟩
      all_goals (rw [ep]; omega)
    · exact ⟨_, rfl, _, rfl, two, fun t ht => fin_ H4 _ _ B04 p4 r0 r1 c0 c1' t ht⟩
  · exact ⟨_, rfl, _, rfl, two, fun t ht => fin_ H3 _ _ B3 p3 r0 r1 c0 c1' t ht⟩
end
end QW
set_option Elab.async false
set_option linter.all false
set_option maxRecDepth 100000
set_option maxHeartbeats 4000000
/-! The walk, 12: what is right; the law. -/
namespace QW
open PySem PySem.Spec PyProof.Rows L2 QX QF
/-! ### the plain law -/
section
variable {n tp : Nat} {R : List Qd} (hS : Shp n tp R)
include hS
theorem low_none (h0 : tp = 0) : ∀ l ∈ lvg R n tp 0 0 [], l.full = false := by
  intro l hl
  rw [h0, lvg_low (by decide)] at hl
  rw [List.mem_singleton.mp hl]
  rfl
theorem some_full (h0 : tp ≠ 0) : ∃ l ∈ lvg R n tp 0 0 [], l.full = true := lvg_full hS.gd n tp 0 0 [] (by have := hS.lt; omega) hS.dep h0
theorem leaf_in {l : Lf} (h : l ∈ lvg R n tp 0 0 []) : 1 ≤ l.s ∧ 0 ≤ l.r ∧ l.r + l.s ≤ (2 : Int) ^ n ∧ 0 ≤ l.c ∧ l.c + l.s ≤ (2 : Int) ^ n := by
  have i := lvg_in hS.gd n tp 0 0 [] (by have := hS.lt; omega) hS.dep l h
  have h1 := i.pos
  have h2 := i.r0
  have h3 := i.r1
  have h4 := i.c0
  have h5 := i.c1
  omega
theorem leaf_lf {l : Lf} (h : l ∈ lvg R n tp 0 0 []) {x y : Int} (h1 : l.r ≤ x) (h2 : x < l.r + l.s) (h3 : l.c ≤ y) (h4 : y < l.c + l.s) : lf R x y n tp [] = (l.ad, if l.full = true then 1 else 0) :=
  lvg_lf hS.gd n tp 0 0 [] (by have := hS.lt; omega) hS.dep ⟨0, by simp⟩ ⟨0, by simp⟩ l h x y h1 h2 h3 h4
theorem told_cell {row col : Int} {l : Lf} (h : l ∈ lvg R n tp 0 0 []) (hf : l.full = true) :
    max (max ((lrk row col l).x - row) (row - (lrk row col l).x)) (max ((lrk row col l).y - col) (col - (lrk row col l).y)) = (lrk row col l).far ∧
    0 ≤ (lrk row col l).x ∧ (lrk row col l).x < (2 : Int) ^ n ∧ 0 ≤ (lrk row col l).y ∧ (lrk row col l).y < (2 : Int) ^ n ∧ lf R (lrk row col l).x (lrk row col l).y n tp [] = (l.ad, 1) := by
  obtain ⟨s1, r0, r1, c0, c1⟩ := leaf_in hS h
  obtain ⟨⟨x0, x1, y0, y1⟩, ef⟩ := rk_cell' row col l.r l.c l.s s1
  have e := leaf_lf hS h x0 x1 y0 y1
  rw [hf, if_pos rfl] at e
  unfold lrk
  exact ⟨ef.symm, by omega, by omega, by omega, by omega, e⟩
theorem told_sum {row col far px py : Int} (hd : max (max (px - row) (row - px)) (max (py - col) (col - py)) = far) :
    (((lvg R n tp 0 0 []).filter fun m => decide ((lrk row col m).lt ⟨far, px, py⟩)).map fun m => share row col far px py m.r m.c m.s).sum = share row col far px py 0 0 ((2 : Int) ^ n) := by
  rw [← lvg_sum hS.gd (f := share row col far px py) (share_add row col far px py) n tp 0 0 [] (by have := hS.lt; omega) hS.dep]
  have key : ∀ m ∈ lvg R n tp 0 0 [], 1 ≤ m.s := fun m hm => (leaf_in hS hm).1
  generalize lvg R n tp 0 0 [] = L at key
  induction L with
  | nil => rfl
  | cons m L ih =>
    have ih' := ih fun x hx => key x (List.mem_cons_of_mem _ hx)
    have hp := share_pos (row := row) (col := col) (far := far) (px := px) (py := py) (r := m.r) (c := m.c) (s := m.s) (key m (List.mem_cons_self ..)) hd
    have hn : 0 ≤ share row col far px py m.r m.c m.s := by
      have h1 := cm_nonneg (pAbove row col far px) m.r m.c m.s
      have h2 := cm_nonneg (pAmid row col far px) m.r m.c m.s
      have h3 := cm_nonneg (pLine row col far px py) m.r m.c m.s
      unfold share
      omega
    by_cases c : (lrk row col m).lt ⟨far, px, py⟩
    · rw [List.filter_cons, if_pos (decide_eq_true c), List.map_cons, List.map_cons, List.sum_cons, List.sum_cons, ih']
    · rw [List.filter_cons, if_neg (by rw [decide_eq_false c]; exact Bool.false_ne_true), List.map_cons, List.sum_cons, ih']
      have : ¬ 0 < share row col far px py m.r m.c m.s := fun z => c (hp.mp z)
      omega
theorem told_leaf {row col : Int} {l m : Lf} (h : l ∈ lvg R n tp 0 0 []) (hf : l.full = true) (least : ∀ m ∈ lvg R n tp 0 0 [], m.full = true → ¬ (lrk row col m).lt (lrk row col l)) (hm : m ∈ lvg R n tp 0 0 []) (hlt : (lrk row col m).lt (lrk row col l)) :
    lf R m.r m.c n tp [] = (m.ad, 0) ∧ 0 < share row col (lrk row col l).far (lrk row col l).x (lrk row col l).y m.r m.c m.s := by
  obtain ⟨s1, r0, r1, c0, c1⟩ := leaf_in hS hm
  have e := leaf_lf hS hm (x := m.r) (y := m.c) (by omega) (by omega) (by omega) (by omega)
  have nf : ¬ m.full = true := fun z => least m hm z hlt
  rw [if_neg nf] at e
  exact ⟨e, (share_pos s1 (told_cell hS (row := row) (col := col) h hf).1).mpr hlt⟩
end
theorem two_le : 2 ≤ sizeLine := by decide
theorem strs_eqv (xs : List Str) (h : SeqAt.shaped (.list (xs.map PyData.str)) = true) : PyData.eqv (.list (xs.map PyData.str)) (.list (xs.map PyData.str)) = true := SeqAt.eqv_refl _ (SeqAt.canLay_of_shaped h)
theorem dp_strs {K : PySem.W.Frag} {H : Hp} : ∀ xs : List Str, DpAll K H (xs.map V.str) (xs.map PyData.str)
  | [] => .nil
  | x :: xs => .cons (.str _) (dp_strs xs)
theorem strs_shaped {xs : List Str} (h : ∀ x ∈ xs, PyData.strOk x = true) : SeqAt.shaped (.list (xs.map PyData.str)) = true := by
  have h1 : PyData.canLayAll0 (xs.map PyData.str) = true ∧ PyData.depthAll (xs.map PyData.str) = 0 := by
    induction xs with
    | nil => exact ⟨rfl, rfl⟩
    | cons x T ih =>
      obtain ⟨i1, i2⟩ := ih fun y hy => h y (List.mem_cons_of_mem _ hy)
      have hs := h x (List.mem_cons_self ..)
      refine ⟨?_, ?_⟩
      · show (PyData.canLay0 (.str x) && PyData.canLayAll0 (T.map PyData.str)) = true
        rw [i1]
        simp [PyData.canLay0, hs]
      · show max (PyData.depth (.str x)) (PyData.depthAll (T.map PyData.str)) = 0
        have e : PyData.depth (.str x) = 0 := by simp [PyData.depth]
        omega
  unfold SeqAt.shaped
  simp only [PyData.canLay0, PyData.depth, h1.1, h1.2]
  simp
section
variable {P : Program} {w : World} {K : PySem.W.Frag} {mg : Str → Option Value} {base : Heap} {C : Addr}
def spRight : Sp := fun vs H Q _ => ∃ (a : Addr) (n tp : Nat) (R : List Qd) (row col : Int) (v : V), vs = [.ref a, .int row, .int col, v] ∧ TellAt H a n tp R ∧ Shp n tp R ∧
  ((v = .non ∧ ∀ l ∈ lvg R n tp 0 0 [], l.full = false) ∨ ∃ p l, v = .ref p ∧ l ∈ lvg R n tp 0 0 [] ∧ l.full = true ∧ (∀ m ∈ lvg R n tp 0 0 [], m.full = true → ¬ (lrk row col m).lt (lrk row col l)) ∧
    NearAt H p (lrk row col l) (((lvg R n tp 0 0 []).filter fun m => decide ((lrk row col m).lt (lrk row col l))).map fun m => strOf m.ad)) ∧ ∀ H', Same H H' → Q (.bl true) H'
/-! _law_right: slots 0 _law_told, 1 _law_row, 2 _law_column, 3 _law_some, 4 _law_side, 5 _law_far, 6 _law_place, 7 _law_leaves, 8 _law_ahead_here, 9 _law_many, 10 _law_leaf_here, 11 _law_first, 12 _law_left, 13 _law_wide, 14 _law_share_here -/
abbrev s_L_right : Stmt := top 55
theorem sc_L_right : FnScope ["_law_told", "_law_row", "_law_column", "_law_some", "_law_side", "_law_far", "_law_place", "_law_leaves", "_law_ahead_here", "_law_many", "_law_leaf_here", "_law_first", "_law_left", "_law_wide", "_law_share_here"] ["_law_told", "_law_row", "_law_column", "_law_some"] (defScope s_L_right) := ⟨rfl, rfl, rfl, by decide +kernel, rfl, by decide +kernel, by decide +kernel⟩
theorem c_L_right (T : Txt K mg C) : Cal P w K mg base 3 "_law_right" spRight := by
  have G_L_leaf := c_L_leaf (P := P) (w := w) (base := base) T
  have G_L_square := c_L_square (P := P) (w := w) (base := base) T
  have G_L_share := c_L_share (P := P) (w := w) (base := base) T
  have G_L_ahead := c_L_ahead (P := P) (w := w) (base := base) T
  refine T.d_L_right.cal sc_L_right (fun vs H Q E h => ?_) (fun f cdv A outer s H vs Q E hr h => ?_)
  · obtain ⟨a, n, tp, R, row, col, v, rfl, _⟩ := h
    rfl
  obtain ⟨a, n, tp, R, row, col, v, rfl, hT, hS, hv, q⟩ := h
  obtain ⟨ra, bs, ha, hra, hR⟩ := id hT
  have n12 := hS.n12
  have ep : (1 : Int) * 2 ^ ((n : Nat) : Int).toNat = (2 : Int) ^ n := by rw [pow_pos', Int.toNat_natCast]
  have p4096 := pow_le_4096 n12
  have ppos := two_pow_pos n
  refine ⟨_, (pss_cons (ps_set (i := 4) sc_L_right.nd rfl (Or.inl rfl) (pe_op op_shl pe_int (pe_ix ix_tup (pv 0) pe_int (fun _ _ => rfl))))
    (pss_cons (ps_if (pt_cmpR op_eq (pe_ix ix_tup (pv 0) pe_int (fun _ _ => rfl)) pe_int (nomark _))
      (pss_one (ps_ret (pe_cmpR op_isN (pv 3) pe_non (nomark _))))
      pss_nil)
    (pss_cons (ps_if (PW.pt (pw_or (pt_not (pt_val (pe_callB call_isi (by rfl) T.b_isinstance (by decide +kernel) (pa_cons (pv 3) (pa_cons (pe_bltn (v := .ty "tuple") (by rfl) T.b_tuple (by decide +kernel) rfl) pa_nil))))) (pw_or (pt_cmpR op_ne (pe_callB call_len_seq (by rfl) T.b_len (by decide +kernel) (pa_cons (pv 3) pa_nil)) pe_int (nomark _)) (pw_or1 (pt_not (pt_val (pe_callB call_isi (by rfl) T.b_isinstance (by decide +kernel) (pa_cons (pe_ix ix_tup (pv 3) pe_int (fun _ _ => rfl)) (pa_cons (pe_bltn (v := .ty "list") (by rfl) T.b_list (by decide +kernel) rfl) pa_nil)))))))))
      (pss_one (ps_ret pe_bl))
      pss_nil)
    (pss_cons (ps_asg (pv 3) (pg_tup rfl (pgs_cons (pg_name (i := 5) sc_L_right.nd rfl (Or.inl rfl)) (pgs_cons (pg_name (i := 6) sc_L_right.nd rfl (Or.inl rfl)) (pgs_cons (pg_name (i := 7) sc_L_right.nd rfl (Or.inl rfl)) pgs_nil)))))
    (pss_cons (ps_if (PW.pt (pw_or (pt_cmpR op_ne (pe_callB (call_mx2 rfl) (by rfl) T.b_max (by decide +kernel) (pa_cons (pe_callB call_ab (by rfl) T.b_abs (by decide +kernel) (pa_cons (pe_op op_sub (pe_ix ix_tup (pv 6) pe_int (fun _ _ => rfl)) (pv 1)) pa_nil)) (pa_cons (pe_callB call_ab (by rfl) T.b_abs (by decide +kernel) (pa_cons (pe_op op_sub (pe_ix ix_tup (pv 6) pe_int (fun _ _ => rfl)) (pv 2)) pa_nil)) pa_nil))) (pv 5) (nomark _)) (pw_or (pt_cmpR op_lt (pe_callB (cr_minU rfl) (by rfl) T.b_min (by decide +kernel) (pa_cons (pv 6) pa_nil)) pe_int (nomark _)) (pw_or1 (pt_cmpR op_ge (pe_callB (cr_maxU rfl) (by rfl) T.b_max (by decide +kernel) (pa_cons (pv 6) pa_nil)) (pv 4) (nomark _))))))
      (pss_one (ps_ret pe_bl))
      pss_nil)
    (pss_cons (ps_if (PW.pt (pw_or (pt_cmpR op_ne (pe_ix ix_tup (pe_c G_L_leaf hr (by decide) (by rfl) (pa_cons (pv 0) (pa_cons (pe_ix ix_tup (pv 6) pe_int (fun _ _ => rfl)) (pa_cons (pe_ix ix_tup (pv 6) pe_int (fun _ _ => rfl)) pa_nil)))) pe_int (fun _ _ => rfl)) pe_int (nomark _)) (pw_or1 (pt_cmpR (op_neD hr.units) (pv 7) (pe_callB (cr_sortSX rfl hr.units) (by rfl) T.b_sorted (by decide +kernel) (pa_cons (pe_callTy (cr_setX rfl) (by rfl) T.b_set (by decide +kernel) (pa_cons (pv 7) pa_nil)) pa_nil)) (nomark _)))))
      (pss_one (ps_ret pe_bl))
      pss_nil)
    (pss_cons (ps_set (i := 8) sc_L_right.nd rfl (Or.inl rfl) (pe_c G_L_ahead hr (by decide) (by rfl) (pa_cons (pv 1) (pa_cons (pv 2) (pa_cons (pv 5) (pa_cons (pv 6) pa_nil))))))
    (pss_cons (ps_set (i := 9) sc_L_right.nd rfl (Or.inl rfl) pe_int)
    (pss_cons (ps_for PassesOwn.never rfl (pi_list (pv 7)) (pg_name (i := 10) sc_L_right.nd rfl (Or.inl rfl))
      (pss_cons (ps_asg (pe_c G_L_square hr (by decide) (by rfl) (pa_cons (pe_ix ix_tup (pv 0) pe_int (fun _ _ => rfl)) (pa_cons (pv 10) pa_nil))) (pg_tup rfl (pgs_cons (pg_name (i := 11) sc_L_right.nd rfl (Or.inl rfl)) (pgs_cons (pg_name (i := 12) sc_L_right.nd rfl (Or.inl rfl)) (pgs_cons (pg_name (i := 13) sc_L_right.nd rfl (Or.inl rfl)) pgs_nil)))))
      (pss_cons (ps_set (i := 14) sc_L_right.nd rfl (Or.inl rfl) (pe_c G_L_share hr (by decide) (by rfl) (pa_cons (pv 8) (pa_cons (pe_tup (pa_cons (pv 11) (pa_cons (pv 12) (pa_cons (pv 13) (pa_cons (pv 13) pa_nil))))) pa_nil))))
      (pss_cons (ps_if (PW.pt (pw_or (pt_cmpR (op_neD hr.units) (pe_c G_L_leaf hr (by decide) (by rfl) (pa_cons (pv 0) (pa_cons (pv 11) (pa_cons (pv 12) pa_nil)))) (pe_tup (pa_cons (pv 10) (pa_cons pe_int pa_nil))) (nomark _)) (pw_or1 (pt_cmpR op_eq (pv 14) pe_int (nomark _)))))
        (pss_one (ps_ret pe_bl))
        pss_nil)
      (pss_one (ps_set (i := 9) sc_L_right.nd rfl (Or.inl rfl) (pe_op op_add (pv 9) (pv 14))))))))
    (pss_one (ps_ret (pe_cmpR op_eq (pv 9) (pe_c G_L_share hr (by decide) (by rfl) (pa_cons (pv 8) (pa_cons (pe_tup (pa_cons pe_int (pa_cons pe_int (pa_cons (pv 4) (pa_cons (pv 4) pa_nil))))) pa_nil))) (nomark _))))))))))))), ?_⟩
  refine ⟨_, rfl, a, _, 0, _, rfl, rfl, SqT.of ha, rfl, _, _, rfl, rfl, ⟨by omega, by omega, by decide⟩, ?_⟩
  refine ⟨_, rfl, a, _, 1, _, rfl, rfl, SqT.of ha, rfl, rfl, _, rfl, ite2 (fun c => ?_) (fun c => ?_)⟩
  · have c0 : (tp : Int) = 0 := eqi c
    have t0 : tp = 0 := by omega
    rcases hv with ⟨rfl, hv⟩ | ⟨p, l, rfl, hl, hf, _⟩
    · exact ⟨_, rfl, rfl, q _ (Same.refl _)⟩
    · rw [low_none hS t0 l hl] at hf
      cases hf
  have t0 : tp ≠ 0 := fun z => nei c (by rw [z]; rfl)
  rcases hv with ⟨rfl, hv⟩ | ⟨p, l, rfl, hl, hf, least, hN⟩
  · obtain ⟨l, hl, hf⟩ := some_full hS t0
    rw [hv l hl] at hf
    cases hf
  obtain ⟨hd, px0, px1, py0, py1, hlf⟩ := told_cell hS (row := row) (col := col) hl hf
  have hsum := told_sum hS (row := row) (col := col) hd
  have hleaf := fun m hm hlt => told_leaf hS hl hf least (m := m) hm hlt
  have eta : (⟨(lrk row col l).far, (lrk row col l).x, (lrk row col l).y⟩ : Rk) = lrk row col l := rfl
  rw [eta] at hsum
  have lvl : (lvg R n tp 0 0 []).length ≤ 2000 := by rw [lvg_len hS.gd _ _ _ _ _ (by have := hS.lt; omega) hS.dep]; exact hS.lv
  have srt : ((lvg R n tp 0 0 []).filter fun m => decide ((lrk row col m).lt (lrk row col l))).Pairwise (fun x y => x.ad < y.ad) := (lvg_sorted hS.gd n tp 0 0 [] (by have := hS.lt; omega) hS.dep).filter _
  have hF : ∀ m ∈ ((lvg R n tp 0 0 []).filter fun m => decide ((lrk row col m).lt (lrk row col l))), m ∈ lvg R n tp 0 0 [] ∧ (lrk row col m).lt (lrk row col l) := fun m hm => ⟨(List.mem_filter.mp hm).1, of_decide_eq_true (List.mem_filter.mp hm).2⟩
  have hFl : ((lvg R n tp 0 0 []).filter fun m => decide ((lrk row col m).lt (lrk row col l))).length ≤ 2000 := Nat.le_trans (List.length_filter_le _ _) lvl
  generalize ((lvg R n tp 0 0 []).filter fun m => decide ((lrk row col m).lt (lrk row col l))) = F at hN hsum srt hF hFl
  obtain ⟨c0, ll, hp, hc, hll⟩ := hN
  generalize (lrk row col l).far = far at hd hp hsum hleaf
  generalize (lrk row col l).x = px at hd hc hsum hleaf px0 px1 hlf
  generalize (lrk row col l).y = py at hd hc hsum hleaf py0 py1 hlf
  have three : 3 ≤ sizeLine := by decide
  have four' : 4 ≤ sizeLine := by decide
  refine ⟨_, rfl, _, _, _, _, true, rfl, .ty _, .base (.tup hp), kit_ty (by decide +kernel), true, rfl, iteF ?_⟩
  refine ⟨_, rfl, p, _, rfl, .inr (SqT.of hp), rfl, _, rfl, iteF ?_⟩
  refine ⟨_, rfl, p, _, 2, _, rfl, rfl, SqT.of hp, rfl, _, _, _, _, true, rfl, .ty _, .base (.lst hll), kit_ty (by decide +kernel), true, rfl, iteF ?_⟩
  refine ⟨_, rfl, p, _, rfl, SqT.of hp, rfl, _, _, rfl, _, _, rfl, _, _, rfl, rfl, ?_⟩
  have efar : max (absI (px - row)) (absI (py - col)) = far := by
    unfold absI
    omega
  have efar' : (!decide (V.int (max (absI (px - row)) (absI (py - col))) = V.int far)) = false := by
    rw [efar]
    simp
  refine ⟨_, rfl, c0, _, 0, _, rfl, rfl, SqT.of hc, rfl, _, rfl, _, _, rfl, rfl, _, rfl, _, rfl, c0, _, 1, _, rfl, rfl, SqT.of hc, rfl, _, rfl, _, _, rfl, rfl, _, rfl, _, _, rfl, _, rfl, rfl, ?_⟩
  rw [efar']
  refine ⟨_, rfl, iteF ?_⟩
  refine ⟨_, rfl, c0, [px, py], rfl, SqT.of hc, by show 0 < 2; decide, fun m hm _ => ?_⟩
  simp only [List.mem_cons, List.not_mem_nil, or_false] at hm
  refine ⟨_, _, rfl, rfl, _, rfl, ite2 (fun cc => absurd (of_decide_eq_true cc) (by omega)) (fun _ => ?_)⟩
  refine ⟨_, rfl, c0, [px, py], rfl, SqT.of hc, by show 0 < 2; decide, fun m2 hm2 _ => ?_⟩
  simp only [List.mem_cons, List.not_mem_nil, or_false] at hm2
  refine ⟨_, rfl, _, _, rfl, rfl, _, rfl, ite2 (fun cc => absurd (of_decide_eq_true cc) (by rw [ep]; omega)) (fun _ => ?_)⟩
  refine ⟨_, rfl, _, rfl, c0, _, 0, _, rfl, rfl, SqT.of hc, rfl, _, rfl, c0, _, 1, _, rfl, rfl, SqT.of hc, rfl, a, n, tp, R, px, py, rfl, hT, hS, fun t H1 s1 h1 => ?_⟩
  rw [hlf] at h1
  refine ⟨t, _, 1, _, rfl, rfl, SqT.of h1, rfl, rfl, _, rfl, iteF ?_⟩
  have xsl : (F.map fun m => strOf m.ad).length ≤ 2000 := by rw [List.length_map]; exact hFl
  have xss : (F.map fun m => strOf m.ad).Pairwise TLt := by
    rw [List.pairwise_map]
    exact srt.imp fun {x y} h => h
  have xsn : (F.map fun m => strOf m.ad).Nodup := by
    rw [List.nodup_iff_pairwise_ne, List.pairwise_map]
    refine srt.imp fun {x y} h z => ?_
    have e1 : x.ad = y.ad := by
      have := congrArg (fun s : Str => s.cps.toList) z
      simpa [strOf] using this
    rw [e1] at h
    exact absurd h (List.lt_irrefl _)
  have xso : SeqAt.shaped (.list ((F.map fun m => strOf m.ad).map PyData.str)) = true := by
    refine strs_shaped fun x hx => ?_
    obtain ⟨m, hm, rfl⟩ := List.mem_map.mp hx
    exact strOk_of (leaf_path hS (hF m hm).1).1.2
  refine ⟨_, rfl, _, rfl, ll, _, rfl, SqL.of (s1 _ _ hll), xsn, Nat.lt_of_le_of_lt (Nat.succ_le_succ xsl) (by decide), fun sa hsa => ?_⟩
  have s2 := same_new hsa (SetXO w sa (F.map fun m => strOf m.ad))
  refine ⟨sa, _, rfl, upd_same, xss, Nat.le_trans xsl (by decide), fun sb hsb => ?_⟩
  have s3 := same_new hsb (.lst ((F.map fun m => strOf m.ad).map V.str))
  have s13 := (s1.trans s2).trans s3
  refine ⟨_, _, .lst (SqL.of (s13 _ _ hll)) (dp_strs _), .lst (SqL.of upd_same) (dp_strs _), xso, xso, ?_⟩
  rw [strs_eqv _ xso]
  refine ⟨_, rfl, iteF ?_⟩
  generalize upd (upd H1 sa (SetXO w sa (F.map fun m => strOf m.ad))) sb (.lst ((F.map fun m => strOf m.ad).map V.str)) = H3 at s13 ⊢
  refine ⟨_, rfl, _, rfl, _, rfl, _, rfl, c0, row, col, far, px, py, rfl, s13 _ _ hc, fun ah H4 s4 hah => ?_⟩
  have s14 := s13.trans s4
  have hll4 := s14 _ _ hll
  refine ⟨_, rfl, ll, rfl, ⟨_, SqL.of hll4⟩, for_it (walk_list (xs := (F.map fun m => strOf m.ad).map V.str)) (fun i σ H' => Same H4 H' ∧ ∃ v10 v11 v12 v13 v14, σ = [some (.ref a), some (.int row), some (.int col), some (.ref p), some (.int (1 * 2 ^ ((n : Nat) : Int).toNat)), some (.int far), some (.ref c0), some (.ref ll), some (.ref ah),
      some (.int ((F.take i).map fun m => share row col far px py m.r m.c m.s).sum), v10, v11, v12, v13, v14]) ⟨Same.refl _, none, none, none, none, none, rfl⟩ (fun _ _ _ _ ⟨s5, _⟩ => SqL.of (s5 _ _ hll4)) ?_ ?_⟩
  · rintro i x σ H5 H6 hi ⟨s5, v10, v11, v12, v13, v14, rfl⟩ ⟨rfl, hx⟩
    rw [List.length_map, List.length_map] at hi
    have hm : F[i]? = some F[i] := List.getElem?_eq_getElem hi
    have ex : x = .str (strOf F[i].ad) := by
      rw [List.getElem?_map, List.getElem?_map, hm] at hx
      exact (Option.some.inj hx).symm
    subst ex
    have esum : ∀ m : Lf, ((F.take i ++ [m]).map fun m => share row col far px py m.r m.c m.s).sum = ((F.take i).map fun m => share row col far px py m.r m.c m.s).sum + share row col far px py m.r m.c m.s := fun m => by
      rw [List.map_append, List.sum_append, List.map_singleton, List.sum_singleton]
    rw [take_snoc hm, esum]
    generalize F[i] = m at hm
    have hmF := hF m (List.mem_of_getElem? hm)
    obtain ⟨hfg, hsq⟩ := leaf_path hS hmF.1
    obtain ⟨hl0, hpos⟩ := hleaf m hmF.1 hmF.2
    obtain ⟨ms1, mr0, mr1, mc0, mc1⟩ := leaf_in hS hmF.1
    refine ⟨_, rfl, a, _, 0, _, rfl, rfl, SqT.of (s5 _ _ (s14 _ _ ha)), rfl, _, rfl, n, m.ad, rfl, n12, hfg, fun t2 H7 s7 h7 => ?_⟩
    rw [hsq] at h7
    refine ⟨t2, _, rfl, SqT.of h7, rfl, _, _, rfl, _, _, rfl, _, _, rfl, rfl, ?_⟩
    have s57 := s5.trans s7
    refine ⟨_, rfl, _, rfl, _, rfl, _, rfl, _, rfl, four', fun b hb => ?_⟩
    have s8 := same_new hb (.tup [.int m.r, .int m.c, .int m.s, .int m.s])
    have s58 := s57.trans s8
    refine ⟨ah, b, row, col, far, px, py, m.r, m.c, m.s, rfl, hah.same s58, upd_same, by omega, by omega, fun H9 s9 => ?_⟩
    have s59 := s58.trans s9
    refine ⟨_, rfl, _, rfl, _, rfl, a, n, tp, R, m.r, m.c, rfl, hT.same (s14.trans s59), hS, fun t3 H10 s10 h10 => ?_⟩
    rw [hl0] at h10
    refine ⟨_, rfl, two_le, fun t4 h4 => ?_⟩
    have s11 := same_new h4 (.tup [.str (strOf m.ad), .int 0])
    have sh2 : SeqAt.shaped (.tuple [.str (strOf m.ad), .int 0]) = true := by
      have hs := strOk_of hfg.2
      simp [SeqAt.shaped, PyData.canLay0, PyData.canLayAll0, PyData.depth, PyData.depthAll, hs]
    refine ⟨.tuple [.str (strOf m.ad), .int 0], .tuple [.str (strOf m.ad), .int 0], .tup (SqT.of (s11 _ _ h10)) (.cons (.str _) (.cons (.int _) .nil)), .tup (SqT.of upd_same) (.cons (.str _) (.cons (.int _) .nil)), sh2, sh2, ?_⟩
    rw [SeqAt.eqv_refl _ (SeqAt.canLay_of_shaped sh2)]
    have s511 := (s59.trans s10).trans s11
    refine ⟨_, rfl, iteF ?_⟩
    refine ⟨_, rfl, rfl, _, rfl, ite2 (fun cc => absurd (eqi cc) (by omega)) (fun _ => ?_)⟩
    exact ⟨_, rfl, _, rfl, _, _, rfl, rfl, s511, _, _, _, _, _, rfl⟩
  · rintro σ H5 ⟨s5, v10, v11, v12, v13, v14, rfl⟩
    have eF : F.take ((F.map fun m => strOf m.ad).map V.str).length = F := by
      rw [List.length_map, List.length_map, List.take_length]
    rw [eF, hsum]
    refine ⟨_, rfl, _, rfl, _, rfl, _, rfl, four', fun b hb => ?_⟩
    have s6 := same_new hb (.tup [.int 0, .int 0, .int (1 * 2 ^ ((n : Nat) : Int).toNat), .int (1 * 2 ^ ((n : Nat) : Int).toNat)])
    refine ⟨ah, b, row, col, far, px, py, 0, 0, (2 : Int) ^ n, rfl, hah.same (s5.trans s6), ?_, by omega, by omega, fun H7 s7 => ?_⟩
    · rw [ep]
      exact upd_same
    · exact ⟨rfl, bl_t rfl (q _ (s14.trans ((s5.trans s6).trans s7)))⟩
theorem TellAt.ts {H H' : Hp} (s : TS H H') {a : Addr} {n top : Nat} {R : List Qd} (h : TellAt H a n top R) : TellAt H' a n top R := by
  obtain ⟨ra, bs, h1, h2, h3⟩ := h
  have rows : ∀ {bs : List Addr} {R : List Qd}, RowsAt H bs R → RowsAt H' bs R := by
    intro bs
    induction bs with
    | nil => intro R h; cases R with
      | nil => trivial
      | cons _ _ => exact h.elim
    | cons b bs ih => intro R h; cases R with
      | nil => exact h.elim
      | cons q R => exact ⟨s _ _ h.1, ih h.2⟩
  exact ⟨ra, bs, s _ _ h1, s _ _ h2, rows h3⟩
def spLaw (K : PySem.W.Frag) : Sp := fun vs H Q _ => ∃ (sc : Addr) (ns : List Int), vs = [.ref sc] ∧ SqL K H sc (ns.map V.int) ∧ ns.length ≤ 1000 ∧ ∀ H', Same H H' → Q (.bl true) H'
/-! law: slots 0 _law_script, 1 _law_k, 2 _law_pot_here, 3 _law_n, 4 _law_boxes_here, 5 _law_told, 6 _law_turn, 7 _law_row, 8 _law_column -/
abbrev s_law : Stmt := top 56
theorem sc_law : FnScope ["_law_script", "_law_k", "_law_pot_here", "_law_n", "_law_boxes_here", "_law_told", "_law_turn", "_law_row", "_law_column"] ["_law_script"] (defScope s_law) := ⟨rfl, rfl, rfl, by decide +kernel, rfl, by decide +kernel, by decide +kernel⟩
theorem ok_law (T : Txt K mg C) {f : Addr} {fd : FuncData} (F : L2.Fun K "law" "law" (top 56) f fd) : FnOk P w K mg base L2.CX0 22 f fd ["_law_script"] (spLaw K) := by
  have G_L_pot := c_L_pot (P := P) (w := w) (base := base) T
  have G_L_digit := c_L_digit (P := P) (w := w) (base := base) T
  have G_L_boxes := c_L_boxes (P := P) (w := w) (base := base) T
  have G_L_shape := c_L_shape (P := P) (w := w) (base := base) T
  have G_L_near_box := c_L_near_box (P := P) (w := w) (base := base) T
  have G_L_right := c_L_right (P := P) (w := w) (base := base) T
  have G_nearest := c_nearest (P := P) (w := w) (base := base) T
  refine F.ok sc_law (fun vs H Q E h => ?_) (fun cdv A outer s H vs Q E hr h => ?_)
  · obtain ⟨sc, ns, rfl, _⟩ := h
    rfl
  obtain ⟨sc, ns, rfl, hsc, hns, q⟩ := h
  refine ⟨_, (pss_cons (ps_for PassesOwn.never rfl (pi_range1 (by rfl) T.b_range (pa_cons (pe_callB (call_mx2 rfl) (by rfl) T.b_max (by decide +kernel) (pa_cons pe_int (pa_cons (pe_callB (call_mn2 rfl) (by rfl) T.b_min (by decide +kernel) (pa_cons (pe_callB call_len_seq (by rfl) T.b_len (by decide +kernel) (pa_cons (pv 0) pa_nil)) (pa_cons pe_int pa_nil))) pa_nil))) pa_nil)) (pg_name (i := 1) sc_law.nd rfl (Or.inl rfl))
      (pss_cons (ps_set (i := 2) sc_law.nd rfl (Or.inl rfl) (pe_c G_L_pot hr (by decide) (by rfl) (pa_cons (pv 0) (pa_cons (pv 1) pa_nil))))
      (pss_cons (ps_set (i := 3) sc_law.nd rfl (Or.inl rfl) (pe_op op_add pe_int (pe_c G_L_digit hr (by decide) (by rfl) (pa_cons (pv 2) (pa_cons pe_int pa_nil)))))
      (pss_cons (ps_set (i := 4) sc_law.nd rfl (Or.inl rfl) (pe_c G_L_boxes hr (by decide) (by rfl) (pa_cons (pv 2) (pa_cons (pv 3) pa_nil))))
      (pss_cons (ps_set (i := 5) sc_law.nd rfl (Or.inl rfl) (pe_c G_L_shape hr (by decide) (by rfl) (pa_cons (pv 3) (pa_cons (pv 4) pa_nil))))
      (pss_one (ps_for PassesOwn.never rfl (pi_range1 (by rfl) T.b_range (pa_cons pe_int pa_nil)) (pg_name (i := 6) sc_law.nd rfl (Or.inl rfl))
        (pss_cons (ps_asg (pe_c G_L_near_box hr (by decide) (by rfl) (pa_cons (pv 2) (pa_cons (pv 4) (pa_cons (pv 3) pa_nil)))) (pg_tup rfl (pgs_cons (pg_name (i := 7) sc_law.nd rfl (Or.inl rfl)) (pgs_cons (pg_name (i := 8) sc_law.nd rfl (Or.inl rfl)) pgs_nil))))
        (pss_one (ps_if (pt_not (pt_val (pe_c G_L_right hr (by decide) (by rfl) (pa_cons (pv 5) (pa_cons (pv 7) (pa_cons (pv 8) (pa_cons (pe_c G_nearest hr (by decide) (by rfl) (pa_cons (pv 5) (pa_cons (pv 7) (pa_cons (pv 8) pa_nil)))) pa_nil)))))))
          (pss_one (ps_ret pe_bl))
          pss_nil))))))))))
    (pss_one (ps_ret pe_bl))), ?_⟩
  refine ⟨_, rfl, sc, _, rfl, .inl hsc, _, _, rfl, _, _, rfl, _, rfl, by omega, by rw [List.length_map]; omega, ?_⟩
  have ek : (max (1 : Int) (min ((ns.map V.int).length : Int) 3)).toNat ≤ 3 := by omega
  generalize (max (1 : Int) (min ((ns.map V.int).length : Int) 3)).toNat = kk at ek
  refine for_it walk_range (fun i σ H' => Same H H' ∧ ∃ v1 v2 v3 v4 v5 v6 v7 v8, σ = [some (.ref sc), v1, v2, v3, v4, v5, v6, v7, v8]) ⟨Same.refl _, none, none, none, none, none, none, none, none, rfl⟩ (fun _ _ _ _ _ => trivial) ?_ ?_
  · rintro i x σ H1 H2 hi ⟨s1, v1, v2, v3, v4, v5, v6, v7, v8, rfl⟩ ⟨rfl, rfl⟩
    have ex : (fun i : Nat => V.int (0 + (i : Nat))) i = V.int (i : Nat) := congrArg V.int (Int.zero_add _)
    rw [ex]
    refine ⟨_, rfl, _, rfl, sc, ns, i, rfl, sqL_same s1 hsc, by omega, hns, fun p H3 hp0 s3 p3 => ?_⟩
    refine ⟨_, rfl, p, 9, rfl, p3, by decide, by decide, fun d H4 B4 p4 d0 d1 => ?_⟩
    obtain ⟨d, rfl⟩ : ∃ k : Nat, d = (k : Int) := ⟨d.toNat, by omega⟩
    have en : (fun i j : Int => V.int (i + j)) 4 (d : Int) = V.int ((4 + d : Nat) : Int) := congrArg V.int (by omega)
    refine ⟨_, _, rfl, rfl, ?_⟩
    rw [en]
    have n4 : 4 ≤ 4 + d := by omega
    have n12 : 4 + d ≤ 12 := by omega
    generalize 4 + d = n at n4 n12
    refine ⟨_, rfl, _, rfl, p, n, rfl, p4, n4, n12, fun bl bs xs H5 nbp B5 p5 hbl hbs hx5 hok => ?_⟩
    refine ⟨_, rfl, _, rfl, n, bl, bs, xs, rfl, hbl, hbs, hx5, hok, n12, fun a H6 s6 hT => ?_⟩
    have hS := shp_of n12 hok hx5
    generalize (num n [] xs 0 0).1 = tp at hT hS
    generalize (num n [] xs 0 0).2 = R at hT hS
    have p6 := p5.same s6
    have B6 : But [p] H3 H6 := (B4.trans B5).trans (.of s6)
    have hbl6 := s6 _ _ hbl
    have hbs6 : Each BoxAt H6 bs xs := hbs.mono fun b x h => s6 _ _ h
    refine ⟨5, rfl, by decide, by decide, ?_⟩
    refine for_it walk_range (fun j σ H' => But [p] H6 H' ∧ PotAt H' p ∧ ∃ v6 v7 v8, σ = [some (.ref sc), some (.int (i : Nat)), some (.ref p), some (.int (n : Nat)), some (.ref bl), some (.ref a), v6, v7, v8]) ⟨.of (Same.refl _), p6, _, _, _, rfl⟩ (fun _ _ _ _ _ => trivial) ?_ ?_
    · rintro j x σ H7 H8 hj ⟨B7, p7, v6, v7, v8, rfl⟩ ⟨rfl, rfl⟩
      have t7 := ts_pot B7 p6
      refine ⟨_, rfl, _, rfl, _, rfl, p, bl, n, bs, xs, rfl, p7, nbp, B7 _ _ (by simp [nbp]) hbl6, hbs6.mono fun b x h => t7 _ _ h, hx5, n12, fun t r c H9 B9 p9 ht r0 r1 c0 c1 => ?_⟩
      have B79 := B7.trans B9
      have hT9 : TellAt H9 a n tp R := hT.ts (ts_pot B79 p6)
      refine ⟨t, _, rfl, SqT.of ht, rfl, _, _, rfl, _, _, rfl, rfl, ?_⟩
      refine ⟨_, rfl, _, rfl, _, rfl, _, rfl, _, rfl, _, rfl, a, n, tp, R, r, c, rfl, hT9, hS, r0, r1, c0, c1, fun H10 s10 => ⟨fun hn => ?_, fun q' l hl hf least hN => ?_⟩⟩
      · refine ⟨a, n, tp, R, r, c, .non, rfl, hT9.same s10, hS, .inl ⟨rfl, hn⟩, fun H11 s11 => ⟨true, rfl, iteF ?_⟩⟩
        exact ⟨B79.trans (.of (s10.trans s11)), p9.same (s10.trans s11), _, _, _, rfl⟩
      · refine ⟨a, n, tp, R, r, c, .ref q', rfl, hT9.same s10, hS, .inr ⟨q', l, rfl, hl, hf, least, hN⟩, fun H11 s11 => ⟨true, rfl, iteF ?_⟩⟩
        exact ⟨B79.trans (.of (s10.trans s11)), p9.same (s10.trans s11), _, _, _, rfl⟩
    · rintro σ H7 ⟨B7, p7, v6, v7, v8, rfl⟩
      have B37 := B6.trans B7
      refine ⟨fun b o e => ?_, _, _, _, _, _, _, _, _, rfl⟩
      have e2 := s1 _ _ e
      exact B37 _ _ (fun z => by rw [List.mem_singleton.mp z, hp0] at e2; cases e2) (s3 _ _ e2)
  · rintro σ H1 ⟨s1, v1, v2, v3, v4, v5, v6, v7, v8, rfl⟩
    exact q _ s1
end
end QW
set_option Elab.async false
set_option linter.all false
set_option maxRecDepth 100000
set_option maxHeartbeats 4000000
/-! The end: what the top has written, the head. -/
namespace QW
open PySem PySem.Spec PyProof.Rows L2 QX QF
theorem all_txt {l : PySem.W.OpenLaw} {w : World} {K : PySem.W.Frag} {h : Heap} {mg : Str → Option Value} {fa C : Addr} (X : K.In h) (G : h.Ns mainGlobals mg) (hfa : mg "law" = some (.ref fa))
    {f_Rows : Addr} {od_Rows an_Rows : Option Addr} {sl_Rows : Array (Option Value)} {oc_Rows kV_Rows dc_Rows pm_Rows cd_Rows ct_Rows : Value}
    {f_number : Addr} {od_number an_number : Option Addr} {sl_number : Array (Option Value)} {oc_number kV_number dc_number pm_number cd_number ct_number : Value}
    {f_quarters : Addr} {od_quarters an_quarters : Option Addr} {sl_quarters : Array (Option Value)} {oc_quarters kV_quarters dc_quarters pm_quarters cd_quarters ct_quarters : Value}
    {f_take : Addr} {od_take an_take : Option Addr} {sl_take : Array (Option Value)} {oc_take kV_take dc_take pm_take cd_take ct_take : Value}
    {f_order : Addr} {od_order an_order : Option Addr} {sl_order : Array (Option Value)} {oc_order kV_order dc_order pm_order cd_order ct_order : Value}
    {f_shape : Addr} {od_shape an_shape : Option Addr} {sl_shape : Array (Option Value)} {oc_shape kV_shape dc_shape pm_shape cd_shape ct_shape : Value}
    {f_is_whole : Addr} {od_is_whole an_is_whole : Option Addr} {sl_is_whole : Array (Option Value)} {oc_is_whole kV_is_whole dc_is_whole pm_is_whole cd_is_whole ct_is_whole : Value}
    {f_is_size : Addr} {od_is_size an_is_size : Option Addr} {sl_is_size : Array (Option Value)} {oc_is_size kV_is_size dc_is_size pm_is_size cd_is_size ct_is_size : Value}
    {f_is_address : Addr} {od_is_address an_is_address : Option Addr} {sl_is_address : Array (Option Value)} {oc_is_address kV_is_address dc_is_address pm_is_address cd_is_address ct_is_address : Value}
    {f_is_cell : Addr} {od_is_cell an_is_cell : Option Addr} {sl_is_cell : Array (Option Value)} {oc_is_cell kV_is_cell dc_is_cell pm_is_cell cd_is_cell ct_is_cell : Value}
    {f_want_size : Addr} {od_want_size an_want_size : Option Addr} {sl_want_size : Array (Option Value)} {oc_want_size kV_want_size dc_want_size pm_want_size cd_want_size ct_want_size : Value}
    {f_want_address : Addr} {od_want_address an_want_address : Option Addr} {sl_want_address : Array (Option Value)} {oc_want_address kV_want_address dc_want_address pm_want_address cd_want_address ct_want_address : Value}
    {f_want_cell : Addr} {od_want_cell an_want_cell : Option Addr} {sl_want_cell : Array (Option Value)} {oc_want_cell kV_want_cell dc_want_cell pm_want_cell cd_want_cell ct_want_cell : Value}
    {f_box_of : Addr} {od_box_of an_box_of : Option Addr} {sl_box_of : Array (Option Value)} {oc_box_of kV_box_of dc_box_of pm_box_of cd_box_of ct_box_of : Value}
    {f_one_of : Addr} {od_one_of an_one_of : Option Addr} {sl_one_of : Array (Option Value)} {oc_one_of kV_one_of dc_one_of pm_one_of cd_one_of ct_one_of : Value}
    {f_is_number : Addr} {od_is_number an_is_number : Option Addr} {sl_is_number : Array (Option Value)} {oc_is_number kV_is_number dc_is_number pm_is_number cd_is_number ct_is_number : Value}
    {f_is_row : Addr} {od_is_row an_is_row : Option Addr} {sl_is_row : Array (Option Value)} {oc_is_row kV_is_row dc_is_row pm_is_row cd_is_row ct_is_row : Value}
    {f_depths_of : Addr} {od_depths_of an_depths_of : Option Addr} {sl_depths_of : Array (Option Value)} {oc_depths_of kV_depths_of dc_depths_of pm_depths_of cd_depths_of ct_depths_of : Value}
    {f_is_telling : Addr} {od_is_telling an_is_telling : Option Addr} {sl_is_telling : Array (Option Value)} {oc_is_telling kV_is_telling dc_is_telling pm_is_telling cd_is_telling ct_is_telling : Value}
    {f_is_shape : Addr} {od_is_shape an_is_shape : Option Addr} {sl_is_shape : Array (Option Value)} {oc_is_shape kV_is_shape dc_is_shape pm_is_shape cd_is_shape ct_is_shape : Value}
    {f_want_shape : Addr} {od_want_shape an_want_shape : Option Addr} {sl_want_shape : Array (Option Value)} {oc_want_shape kV_want_shape dc_want_shape pm_want_shape cd_want_shape ct_want_shape : Value}
    {f_many_in : Addr} {od_many_in an_many_in : Option Addr} {sl_many_in : Array (Option Value)} {oc_many_in kV_many_in dc_many_in pm_many_in cd_many_in ct_many_in : Value}
    {f_want_coarse : Addr} {od_want_coarse an_want_coarse : Option Addr} {sl_want_coarse : Array (Option Value)} {oc_want_coarse kV_want_coarse dc_want_coarse pm_want_coarse cd_want_coarse ct_want_coarse : Value}
    {f_leaves_of : Addr} {od_leaves_of an_leaves_of : Option Addr} {sl_leaves_of : Array (Option Value)} {oc_leaves_of kV_leaves_of dc_leaves_of pm_leaves_of cd_leaves_of ct_leaves_of : Value}
    {f_beyond : Addr} {od_beyond an_beyond : Option Addr} {sl_beyond : Array (Option Value)} {oc_beyond kV_beyond dc_beyond pm_beyond cd_beyond ct_beyond : Value}
    {f_rank : Addr} {od_rank an_rank : Option Addr} {sl_rank : Array (Option Value)} {oc_rank kV_rank dc_rank pm_rank cd_rank ct_rank : Value}
    {f_ranks : Addr} {od_ranks an_ranks : Option Addr} {sl_ranks : Array (Option Value)} {oc_ranks kV_ranks dc_ranks pm_ranks cd_ranks ct_ranks : Value}
    {f_first_rank : Addr} {od_first_rank an_first_rank : Option Addr} {sl_first_rank : Array (Option Value)} {oc_first_rank kV_first_rank dc_first_rank pm_first_rank cd_first_rank ct_first_rank : Value}
    {f_nearest : Addr} {od_nearest an_nearest : Option Addr} {sl_nearest : Array (Option Value)} {oc_nearest kV_nearest dc_nearest pm_nearest cd_nearest ct_nearest : Value}
    {f_L_pot : Addr} {od_L_pot an_L_pot : Option Addr} {sl_L_pot : Array (Option Value)} {oc_L_pot kV_L_pot dc_L_pot pm_L_pot cd_L_pot ct_L_pot : Value}
    {f_L_digit : Addr} {od_L_digit an_L_digit : Option Addr} {sl_L_digit : Array (Option Value)} {oc_L_digit kV_L_digit dc_L_digit pm_L_digit cd_L_digit ct_L_digit : Value}
    {f_L_box : Addr} {od_L_box an_L_box : Option Addr} {sl_L_box : Array (Option Value)} {oc_L_box kV_L_box dc_L_box pm_L_box cd_L_box ct_L_box : Value}
    {f_L_boxes : Addr} {od_L_boxes an_L_boxes : Option Addr} {sl_L_boxes : Array (Option Value)} {oc_L_boxes kV_L_boxes dc_L_boxes pm_L_boxes cd_L_boxes ct_L_boxes : Value}
    {f_L_meets : Addr} {od_L_meets an_L_meets : Option Addr} {sl_L_meets : Array (Option Value)} {oc_L_meets kV_L_meets dc_L_meets pm_L_meets cd_L_meets ct_L_meets : Value}
    {f_L_has : Addr} {od_L_has an_L_has : Option Addr} {sl_L_has : Array (Option Value)} {oc_L_has kV_L_has dc_L_has pm_L_has cd_L_has ct_L_has : Value}
    {f_L_number : Addr} {od_L_number an_L_number : Option Addr} {sl_L_number : Array (Option Value)} {oc_L_number kV_L_number dc_L_number pm_L_number cd_L_number ct_L_number : Value}
    {f_L_shape : Addr} {od_L_shape an_L_shape : Option Addr} {sl_L_shape : Array (Option Value)} {oc_L_shape kV_L_shape dc_L_shape pm_L_shape cd_L_shape ct_L_shape : Value}
    {f_L_leaf : Addr} {od_L_leaf an_L_leaf : Option Addr} {sl_L_leaf : Array (Option Value)} {oc_L_leaf kV_L_leaf dc_L_leaf pm_L_leaf cd_L_leaf ct_L_leaf : Value}
    {f_L_square : Addr} {od_L_square an_L_square : Option Addr} {sl_L_square : Array (Option Value)} {oc_L_square kV_L_square dc_L_square pm_L_square cd_L_square ct_L_square : Value}
    {f_L_near_box : Addr} {od_L_near_box an_L_near_box : Option Addr} {sl_L_near_box : Array (Option Value)} {oc_L_near_box kV_L_near_box dc_L_near_box pm_L_near_box cd_L_near_box ct_L_near_box : Value}
    {f_L_common : Addr} {od_L_common an_L_common : Option Addr} {sl_L_common : Array (Option Value)} {oc_L_common kV_L_common dc_L_common pm_L_common cd_L_common ct_L_common : Value}
    {f_L_ahead : Addr} {od_L_ahead an_L_ahead : Option Addr} {sl_L_ahead : Array (Option Value)} {oc_L_ahead kV_L_ahead dc_L_ahead pm_L_ahead cd_L_ahead ct_L_ahead : Value}
    {f_L_share : Addr} {od_L_share an_L_share : Option Addr} {sl_L_share : Array (Option Value)} {oc_L_share kV_L_share dc_L_share pm_L_share cd_L_share ct_L_share : Value}
    {f_L_right : Addr} {od_L_right an_L_right : Option Addr} {sl_L_right : Array (Option Value)} {oc_L_right kV_L_right dc_L_right pm_L_right cd_L_right ct_L_right : Value}
    {f_law : Addr} {od_law an_law : Option Addr} {sl_law : Array (Option Value)} {oc_law kV_law dc_law pm_law cd_law ct_law : Value}
    {t1 t2 t3 : Tok}
    (a_C : PySem.W.nsIn K mainGlobals "Rows" = some (some (.ref C)))
    (a_Rows : PySem.W.findIn K (.ref C) "__init__" = some (some (.ref f_Rows))) (i_Rows : PySem.W.isFn K (.ref f_Rows) = true) (l_Rows : K.lookup f_Rows = some ⟨oc_Rows, od_Rows, .func (PySem.W.fnOf "__init__" "Rows.__init__" (defArgs (inClass (top 19) 0)) (defBody (inClass (top 19) 0)) (defScope (inClass (top 19) 0)) .none kV_Rows dc_Rows pm_Rows an_Rows cd_Rows ct_Rows), sl_Rows⟩) (c_Rows : PySem.W.codeIn K cd_Rows "Rows.__init__" = true) (k_Rows : PySem.W.keepIn K (.ref f_Rows) = true)
    (a_number : PySem.W.findIn K (.ref C) "number" = some (some (.ref f_number))) (i_number : PySem.W.isFn K (.ref f_number) = true) (l_number : K.lookup f_number = some ⟨oc_number, od_number, .func (PySem.W.fnOf "number" "Rows.number" (defArgs (inClass (top 19) 1)) (defBody (inClass (top 19) 1)) (defScope (inClass (top 19) 1)) .none kV_number dc_number pm_number an_number cd_number ct_number), sl_number⟩) (c_number : PySem.W.codeIn K cd_number "Rows.number" = true) (k_number : PySem.W.keepIn K (.ref f_number) = true)
    (a_quarters : PySem.W.findIn K (.ref C) "quarters" = some (some (.ref f_quarters))) (i_quarters : PySem.W.isFn K (.ref f_quarters) = true) (l_quarters : K.lookup f_quarters = some ⟨oc_quarters, od_quarters, .func (PySem.W.fnOf "quarters" "Rows.quarters" (defArgs (inClass (top 19) 2)) (defBody (inClass (top 19) 2)) (defScope (inClass (top 19) 2)) .none kV_quarters dc_quarters pm_quarters an_quarters cd_quarters ct_quarters), sl_quarters⟩) (c_quarters : PySem.W.codeIn K cd_quarters "Rows.quarters" = true) (k_quarters : PySem.W.keepIn K (.ref f_quarters) = true)
    (a_take : PySem.W.findIn K (.ref C) "take" = some (some (.ref f_take))) (i_take : PySem.W.isFn K (.ref f_take) = true) (l_take : K.lookup f_take = some ⟨oc_take, od_take, .func (PySem.W.fnOf "take" "Rows.take" (defArgs (inClass (top 19) 3)) (defBody (inClass (top 19) 3)) (defScope (inClass (top 19) 3)) .none kV_take dc_take pm_take an_take cd_take ct_take), sl_take⟩) (c_take : PySem.W.codeIn K cd_take "Rows.take" = true) (k_take : PySem.W.keepIn K (.ref f_take) = true)
    (a_order : PySem.W.findIn K (.ref C) "order" = some (some (.ref f_order))) (i_order : PySem.W.isFn K (.ref f_order) = true) (l_order : K.lookup f_order = some ⟨oc_order, od_order, .func (PySem.W.fnOf "order" "Rows.order" (defArgs (inClass (top 19) 4)) (defBody (inClass (top 19) 4)) (defScope (inClass (top 19) 4)) .none kV_order dc_order pm_order an_order cd_order ct_order), sl_order⟩) (c_order : PySem.W.codeIn K cd_order "Rows.order" = true) (k_order : PySem.W.keepIn K (.ref f_order) = true)
    (a_shape : PySem.W.findIn K (.ref C) "shape" = some (some (.ref f_shape))) (i_shape : PySem.W.isFn K (.ref f_shape) = true) (l_shape : K.lookup f_shape = some ⟨oc_shape, od_shape, .func (PySem.W.fnOf "shape" "Rows.shape" (defArgs (inClass (top 19) 5)) (defBody (inClass (top 19) 5)) (defScope (inClass (top 19) 5)) .none kV_shape dc_shape pm_shape an_shape cd_shape ct_shape), sl_shape⟩) (c_shape : PySem.W.codeIn K cd_shape "Rows.shape" = true) (k_shape : PySem.W.keepIn K (.ref f_shape) = true)
    (a_is_whole : PySem.W.nsIn K mainGlobals "is_whole" = some (some (.ref f_is_whole))) (l_is_whole : K.lookup f_is_whole = some ⟨oc_is_whole, od_is_whole, .func (PySem.W.fnOf "is_whole" "is_whole" (defArgs (top 10)) (defBody (top 10)) (defScope (top 10)) .none kV_is_whole dc_is_whole pm_is_whole an_is_whole cd_is_whole ct_is_whole), sl_is_whole⟩) (c_is_whole : PySem.W.codeIn K cd_is_whole "is_whole" = true) (k_is_whole : PySem.W.keepIn K (.ref f_is_whole) = true)
    (a_is_size : PySem.W.nsIn K mainGlobals "is_size" = some (some (.ref f_is_size))) (l_is_size : K.lookup f_is_size = some ⟨oc_is_size, od_is_size, .func (PySem.W.fnOf "is_size" "is_size" (defArgs (top 11)) (defBody (top 11)) (defScope (top 11)) .none kV_is_size dc_is_size pm_is_size an_is_size cd_is_size ct_is_size), sl_is_size⟩) (c_is_size : PySem.W.codeIn K cd_is_size "is_size" = true) (k_is_size : PySem.W.keepIn K (.ref f_is_size) = true)
    (a_is_address : PySem.W.nsIn K mainGlobals "is_address" = some (some (.ref f_is_address))) (l_is_address : K.lookup f_is_address = some ⟨oc_is_address, od_is_address, .func (PySem.W.fnOf "is_address" "is_address" (defArgs (top 12)) (defBody (top 12)) (defScope (top 12)) .none kV_is_address dc_is_address pm_is_address an_is_address cd_is_address ct_is_address), sl_is_address⟩) (c_is_address : PySem.W.codeIn K cd_is_address "is_address" = true) (k_is_address : PySem.W.keepIn K (.ref f_is_address) = true)
    (a_is_cell : PySem.W.nsIn K mainGlobals "is_cell" = some (some (.ref f_is_cell))) (l_is_cell : K.lookup f_is_cell = some ⟨oc_is_cell, od_is_cell, .func (PySem.W.fnOf "is_cell" "is_cell" (defArgs (top 13)) (defBody (top 13)) (defScope (top 13)) .none kV_is_cell dc_is_cell pm_is_cell an_is_cell cd_is_cell ct_is_cell), sl_is_cell⟩) (c_is_cell : PySem.W.codeIn K cd_is_cell "is_cell" = true) (k_is_cell : PySem.W.keepIn K (.ref f_is_cell) = true)
    (a_want_size : PySem.W.nsIn K mainGlobals "want_size" = some (some (.ref f_want_size))) (l_want_size : K.lookup f_want_size = some ⟨oc_want_size, od_want_size, .func (PySem.W.fnOf "want_size" "want_size" (defArgs (top 14)) (defBody (top 14)) (defScope (top 14)) .none kV_want_size dc_want_size pm_want_size an_want_size cd_want_size ct_want_size), sl_want_size⟩) (c_want_size : PySem.W.codeIn K cd_want_size "want_size" = true) (k_want_size : PySem.W.keepIn K (.ref f_want_size) = true)
    (a_want_address : PySem.W.nsIn K mainGlobals "want_address" = some (some (.ref f_want_address))) (l_want_address : K.lookup f_want_address = some ⟨oc_want_address, od_want_address, .func (PySem.W.fnOf "want_address" "want_address" (defArgs (top 15)) (defBody (top 15)) (defScope (top 15)) .none kV_want_address dc_want_address pm_want_address an_want_address cd_want_address ct_want_address), sl_want_address⟩) (c_want_address : PySem.W.codeIn K cd_want_address "want_address" = true) (k_want_address : PySem.W.keepIn K (.ref f_want_address) = true)
    (a_want_cell : PySem.W.nsIn K mainGlobals "want_cell" = some (some (.ref f_want_cell))) (l_want_cell : K.lookup f_want_cell = some ⟨oc_want_cell, od_want_cell, .func (PySem.W.fnOf "want_cell" "want_cell" (defArgs (top 16)) (defBody (top 16)) (defScope (top 16)) .none kV_want_cell dc_want_cell pm_want_cell an_want_cell cd_want_cell ct_want_cell), sl_want_cell⟩) (c_want_cell : PySem.W.codeIn K cd_want_cell "want_cell" = true) (k_want_cell : PySem.W.keepIn K (.ref f_want_cell) = true)
    (a_box_of : PySem.W.nsIn K mainGlobals "box_of" = some (some (.ref f_box_of))) (l_box_of : K.lookup f_box_of = some ⟨oc_box_of, od_box_of, .func (PySem.W.fnOf "box_of" "box_of" (defArgs (top 17)) (defBody (top 17)) (defScope (top 17)) .none kV_box_of dc_box_of pm_box_of an_box_of cd_box_of ct_box_of), sl_box_of⟩) (c_box_of : PySem.W.codeIn K cd_box_of "box_of" = true) (k_box_of : PySem.W.keepIn K (.ref f_box_of) = true)
    (a_one_of : PySem.W.nsIn K mainGlobals "one_of" = some (some (.ref f_one_of))) (l_one_of : K.lookup f_one_of = some ⟨oc_one_of, od_one_of, .func (PySem.W.fnOf "one_of" "one_of" (defArgs (top 20)) (defBody (top 20)) (defScope (top 20)) .none kV_one_of dc_one_of pm_one_of an_one_of cd_one_of ct_one_of), sl_one_of⟩) (c_one_of : PySem.W.codeIn K cd_one_of "one_of" = true) (k_one_of : PySem.W.keepIn K (.ref f_one_of) = true)
    (a_is_number : PySem.W.nsIn K mainGlobals "is_number" = some (some (.ref f_is_number))) (l_is_number : K.lookup f_is_number = some ⟨oc_is_number, od_is_number, .func (PySem.W.fnOf "is_number" "is_number" (defArgs (top 22)) (defBody (top 22)) (defScope (top 22)) .none kV_is_number dc_is_number pm_is_number an_is_number cd_is_number ct_is_number), sl_is_number⟩) (c_is_number : PySem.W.codeIn K cd_is_number "is_number" = true) (k_is_number : PySem.W.keepIn K (.ref f_is_number) = true)
    (a_is_row : PySem.W.nsIn K mainGlobals "is_row" = some (some (.ref f_is_row))) (l_is_row : K.lookup f_is_row = some ⟨oc_is_row, od_is_row, .func (PySem.W.fnOf "is_row" "is_row" (defArgs (top 23)) (defBody (top 23)) (defScope (top 23)) .none kV_is_row dc_is_row pm_is_row an_is_row cd_is_row ct_is_row), sl_is_row⟩) (c_is_row : PySem.W.codeIn K cd_is_row "is_row" = true) (k_is_row : PySem.W.keepIn K (.ref f_is_row) = true)
    (a_depths_of : PySem.W.nsIn K mainGlobals "depths_of" = some (some (.ref f_depths_of))) (l_depths_of : K.lookup f_depths_of = some ⟨oc_depths_of, od_depths_of, .func (PySem.W.fnOf "depths_of" "depths_of" (defArgs (top 24)) (defBody (top 24)) (defScope (top 24)) .none kV_depths_of dc_depths_of pm_depths_of an_depths_of cd_depths_of ct_depths_of), sl_depths_of⟩) (c_depths_of : PySem.W.codeIn K cd_depths_of "depths_of" = true) (k_depths_of : PySem.W.keepIn K (.ref f_depths_of) = true)
    (a_is_telling : PySem.W.nsIn K mainGlobals "is_telling" = some (some (.ref f_is_telling))) (l_is_telling : K.lookup f_is_telling = some ⟨oc_is_telling, od_is_telling, .func (PySem.W.fnOf "is_telling" "is_telling" (defArgs (top 25)) (defBody (top 25)) (defScope (top 25)) .none kV_is_telling dc_is_telling pm_is_telling an_is_telling cd_is_telling ct_is_telling), sl_is_telling⟩) (c_is_telling : PySem.W.codeIn K cd_is_telling "is_telling" = true) (k_is_telling : PySem.W.keepIn K (.ref f_is_telling) = true)
    (a_is_shape : PySem.W.nsIn K mainGlobals "is_shape" = some (some (.ref f_is_shape))) (l_is_shape : K.lookup f_is_shape = some ⟨oc_is_shape, od_is_shape, .func (PySem.W.fnOf "is_shape" "is_shape" (defArgs (top 26)) (defBody (top 26)) (defScope (top 26)) .none kV_is_shape dc_is_shape pm_is_shape an_is_shape cd_is_shape ct_is_shape), sl_is_shape⟩) (c_is_shape : PySem.W.codeIn K cd_is_shape "is_shape" = true) (k_is_shape : PySem.W.keepIn K (.ref f_is_shape) = true)
    (a_want_shape : PySem.W.nsIn K mainGlobals "want_shape" = some (some (.ref f_want_shape))) (l_want_shape : K.lookup f_want_shape = some ⟨oc_want_shape, od_want_shape, .func (PySem.W.fnOf "want_shape" "want_shape" (defArgs (top 27)) (defBody (top 27)) (defScope (top 27)) .none kV_want_shape dc_want_shape pm_want_shape an_want_shape cd_want_shape ct_want_shape), sl_want_shape⟩) (c_want_shape : PySem.W.codeIn K cd_want_shape "want_shape" = true) (k_want_shape : PySem.W.keepIn K (.ref f_want_shape) = true)
    (a_many_in : PySem.W.nsIn K mainGlobals "many_in" = some (some (.ref f_many_in))) (l_many_in : K.lookup f_many_in = some ⟨oc_many_in, od_many_in, .func (PySem.W.fnOf "many_in" "many_in" (defArgs (top 30)) (defBody (top 30)) (defScope (top 30)) .none kV_many_in dc_many_in pm_many_in an_many_in cd_many_in ct_many_in), sl_many_in⟩) (c_many_in : PySem.W.codeIn K cd_many_in "many_in" = true) (k_many_in : PySem.W.keepIn K (.ref f_many_in) = true)
    (a_want_coarse : PySem.W.nsIn K mainGlobals "want_coarse" = some (some (.ref f_want_coarse))) (l_want_coarse : K.lookup f_want_coarse = some ⟨oc_want_coarse, od_want_coarse, .func (PySem.W.fnOf "want_coarse" "want_coarse" (defArgs (top 31)) (defBody (top 31)) (defScope (top 31)) .none kV_want_coarse dc_want_coarse pm_want_coarse an_want_coarse cd_want_coarse ct_want_coarse), sl_want_coarse⟩) (c_want_coarse : PySem.W.codeIn K cd_want_coarse "want_coarse" = true) (k_want_coarse : PySem.W.keepIn K (.ref f_want_coarse) = true)
    (a_leaves_of : PySem.W.nsIn K mainGlobals "leaves_of" = some (some (.ref f_leaves_of))) (l_leaves_of : K.lookup f_leaves_of = some ⟨oc_leaves_of, od_leaves_of, .func (PySem.W.fnOf "leaves_of" "leaves_of" (defArgs (top 32)) (defBody (top 32)) (defScope (top 32)) .none kV_leaves_of dc_leaves_of pm_leaves_of an_leaves_of cd_leaves_of ct_leaves_of), sl_leaves_of⟩) (c_leaves_of : PySem.W.codeIn K cd_leaves_of "leaves_of" = true) (k_leaves_of : PySem.W.keepIn K (.ref f_leaves_of) = true)
    (a_beyond : PySem.W.nsIn K mainGlobals "beyond" = some (some (.ref f_beyond))) (l_beyond : K.lookup f_beyond = some ⟨oc_beyond, od_beyond, .func (PySem.W.fnOf "beyond" "beyond" (defArgs (top 34)) (defBody (top 34)) (defScope (top 34)) .none kV_beyond dc_beyond pm_beyond an_beyond cd_beyond ct_beyond), sl_beyond⟩) (c_beyond : PySem.W.codeIn K cd_beyond "beyond" = true) (k_beyond : PySem.W.keepIn K (.ref f_beyond) = true)
    (a_rank : PySem.W.nsIn K mainGlobals "rank" = some (some (.ref f_rank))) (l_rank : K.lookup f_rank = some ⟨oc_rank, od_rank, .func (PySem.W.fnOf "rank" "rank" (defArgs (top 35)) (defBody (top 35)) (defScope (top 35)) .none kV_rank dc_rank pm_rank an_rank cd_rank ct_rank), sl_rank⟩) (c_rank : PySem.W.codeIn K cd_rank "rank" = true) (k_rank : PySem.W.keepIn K (.ref f_rank) = true)
    (a_ranks : PySem.W.nsIn K mainGlobals "ranks" = some (some (.ref f_ranks))) (l_ranks : K.lookup f_ranks = some ⟨oc_ranks, od_ranks, .func (PySem.W.fnOf "ranks" "ranks" (defArgs (top 36)) (defBody (top 36)) (defScope (top 36)) .none kV_ranks dc_ranks pm_ranks an_ranks cd_ranks ct_ranks), sl_ranks⟩) (c_ranks : PySem.W.codeIn K cd_ranks "ranks" = true) (k_ranks : PySem.W.keepIn K (.ref f_ranks) = true)
    (a_first_rank : PySem.W.nsIn K mainGlobals "first_rank" = some (some (.ref f_first_rank))) (l_first_rank : K.lookup f_first_rank = some ⟨oc_first_rank, od_first_rank, .func (PySem.W.fnOf "first_rank" "first_rank" (defArgs (top 37)) (defBody (top 37)) (defScope (top 37)) .none kV_first_rank dc_first_rank pm_first_rank an_first_rank cd_first_rank ct_first_rank), sl_first_rank⟩) (c_first_rank : PySem.W.codeIn K cd_first_rank "first_rank" = true) (k_first_rank : PySem.W.keepIn K (.ref f_first_rank) = true)
    (a_nearest : PySem.W.nsIn K mainGlobals "nearest" = some (some (.ref f_nearest))) (l_nearest : K.lookup f_nearest = some ⟨oc_nearest, od_nearest, .func (PySem.W.fnOf "nearest" "nearest" (defArgs (top 38)) (defBody (top 38)) (defScope (top 38)) .none kV_nearest dc_nearest pm_nearest an_nearest cd_nearest ct_nearest), sl_nearest⟩) (c_nearest : PySem.W.codeIn K cd_nearest "nearest" = true) (k_nearest : PySem.W.keepIn K (.ref f_nearest) = true)
    (a_L_pot : PySem.W.nsIn K mainGlobals "_law_pot" = some (some (.ref f_L_pot))) (l_L_pot : K.lookup f_L_pot = some ⟨oc_L_pot, od_L_pot, .func (PySem.W.fnOf "_law_pot" "_law_pot" (defArgs (top 40)) (defBody (top 40)) (defScope (top 40)) .none kV_L_pot dc_L_pot pm_L_pot an_L_pot cd_L_pot ct_L_pot), sl_L_pot⟩) (c_L_pot : PySem.W.codeIn K cd_L_pot "_law_pot" = true) (k_L_pot : PySem.W.keepIn K (.ref f_L_pot) = true)
    (a_L_digit : PySem.W.nsIn K mainGlobals "_law_digit" = some (some (.ref f_L_digit))) (l_L_digit : K.lookup f_L_digit = some ⟨oc_L_digit, od_L_digit, .func (PySem.W.fnOf "_law_digit" "_law_digit" (defArgs (top 41)) (defBody (top 41)) (defScope (top 41)) .none kV_L_digit dc_L_digit pm_L_digit an_L_digit cd_L_digit ct_L_digit), sl_L_digit⟩) (c_L_digit : PySem.W.codeIn K cd_L_digit "_law_digit" = true) (k_L_digit : PySem.W.keepIn K (.ref f_L_digit) = true)
    (a_L_box : PySem.W.nsIn K mainGlobals "_law_box" = some (some (.ref f_L_box))) (l_L_box : K.lookup f_L_box = some ⟨oc_L_box, od_L_box, .func (PySem.W.fnOf "_law_box" "_law_box" (defArgs (top 43)) (defBody (top 43)) (defScope (top 43)) .none kV_L_box dc_L_box pm_L_box an_L_box cd_L_box ct_L_box), sl_L_box⟩) (c_L_box : PySem.W.codeIn K cd_L_box "_law_box" = true) (k_L_box : PySem.W.keepIn K (.ref f_L_box) = true)
    (a_L_boxes : PySem.W.nsIn K mainGlobals "_law_boxes" = some (some (.ref f_L_boxes))) (l_L_boxes : K.lookup f_L_boxes = some ⟨oc_L_boxes, od_L_boxes, .func (PySem.W.fnOf "_law_boxes" "_law_boxes" (defArgs (top 44)) (defBody (top 44)) (defScope (top 44)) .none kV_L_boxes dc_L_boxes pm_L_boxes an_L_boxes cd_L_boxes ct_L_boxes), sl_L_boxes⟩) (c_L_boxes : PySem.W.codeIn K cd_L_boxes "_law_boxes" = true) (k_L_boxes : PySem.W.keepIn K (.ref f_L_boxes) = true)
    (a_L_meets : PySem.W.nsIn K mainGlobals "_law_meets" = some (some (.ref f_L_meets))) (l_L_meets : K.lookup f_L_meets = some ⟨oc_L_meets, od_L_meets, .func (PySem.W.fnOf "_law_meets" "_law_meets" (defArgs (top 45)) (defBody (top 45)) (defScope (top 45)) .none kV_L_meets dc_L_meets pm_L_meets an_L_meets cd_L_meets ct_L_meets), sl_L_meets⟩) (c_L_meets : PySem.W.codeIn K cd_L_meets "_law_meets" = true) (k_L_meets : PySem.W.keepIn K (.ref f_L_meets) = true)
    (a_L_has : PySem.W.nsIn K mainGlobals "_law_has" = some (some (.ref f_L_has))) (l_L_has : K.lookup f_L_has = some ⟨oc_L_has, od_L_has, .func (PySem.W.fnOf "_law_has" "_law_has" (defArgs (top 46)) (defBody (top 46)) (defScope (top 46)) .none kV_L_has dc_L_has pm_L_has an_L_has cd_L_has ct_L_has), sl_L_has⟩) (c_L_has : PySem.W.codeIn K cd_L_has "_law_has" = true) (k_L_has : PySem.W.keepIn K (.ref f_L_has) = true)
    (a_L_number : PySem.W.nsIn K mainGlobals "_law_number" = some (some (.ref f_L_number))) (l_L_number : K.lookup f_L_number = some ⟨oc_L_number, od_L_number, .func (PySem.W.fnOf "_law_number" "_law_number" (defArgs (top 47)) (defBody (top 47)) (defScope (top 47)) .none kV_L_number dc_L_number pm_L_number an_L_number cd_L_number ct_L_number), sl_L_number⟩) (c_L_number : PySem.W.codeIn K cd_L_number "_law_number" = true) (k_L_number : PySem.W.keepIn K (.ref f_L_number) = true)
    (a_L_shape : PySem.W.nsIn K mainGlobals "_law_shape" = some (some (.ref f_L_shape))) (l_L_shape : K.lookup f_L_shape = some ⟨oc_L_shape, od_L_shape, .func (PySem.W.fnOf "_law_shape" "_law_shape" (defArgs (top 48)) (defBody (top 48)) (defScope (top 48)) .none kV_L_shape dc_L_shape pm_L_shape an_L_shape cd_L_shape ct_L_shape), sl_L_shape⟩) (c_L_shape : PySem.W.codeIn K cd_L_shape "_law_shape" = true) (k_L_shape : PySem.W.keepIn K (.ref f_L_shape) = true)
    (a_L_leaf : PySem.W.nsIn K mainGlobals "_law_leaf" = some (some (.ref f_L_leaf))) (l_L_leaf : K.lookup f_L_leaf = some ⟨oc_L_leaf, od_L_leaf, .func (PySem.W.fnOf "_law_leaf" "_law_leaf" (defArgs (top 49)) (defBody (top 49)) (defScope (top 49)) .none kV_L_leaf dc_L_leaf pm_L_leaf an_L_leaf cd_L_leaf ct_L_leaf), sl_L_leaf⟩) (c_L_leaf : PySem.W.codeIn K cd_L_leaf "_law_leaf" = true) (k_L_leaf : PySem.W.keepIn K (.ref f_L_leaf) = true)
    (a_L_square : PySem.W.nsIn K mainGlobals "_law_square" = some (some (.ref f_L_square))) (l_L_square : K.lookup f_L_square = some ⟨oc_L_square, od_L_square, .func (PySem.W.fnOf "_law_square" "_law_square" (defArgs (top 50)) (defBody (top 50)) (defScope (top 50)) .none kV_L_square dc_L_square pm_L_square an_L_square cd_L_square ct_L_square), sl_L_square⟩) (c_L_square : PySem.W.codeIn K cd_L_square "_law_square" = true) (k_L_square : PySem.W.keepIn K (.ref f_L_square) = true)
    (a_L_near_box : PySem.W.nsIn K mainGlobals "_law_near_box" = some (some (.ref f_L_near_box))) (l_L_near_box : K.lookup f_L_near_box = some ⟨oc_L_near_box, od_L_near_box, .func (PySem.W.fnOf "_law_near_box" "_law_near_box" (defArgs (top 51)) (defBody (top 51)) (defScope (top 51)) .none kV_L_near_box dc_L_near_box pm_L_near_box an_L_near_box cd_L_near_box ct_L_near_box), sl_L_near_box⟩) (c_L_near_box : PySem.W.codeIn K cd_L_near_box "_law_near_box" = true) (k_L_near_box : PySem.W.keepIn K (.ref f_L_near_box) = true)
    (a_L_common : PySem.W.nsIn K mainGlobals "_law_common" = some (some (.ref f_L_common))) (l_L_common : K.lookup f_L_common = some ⟨oc_L_common, od_L_common, .func (PySem.W.fnOf "_law_common" "_law_common" (defArgs (top 52)) (defBody (top 52)) (defScope (top 52)) .none kV_L_common dc_L_common pm_L_common an_L_common cd_L_common ct_L_common), sl_L_common⟩) (c_L_common : PySem.W.codeIn K cd_L_common "_law_common" = true) (k_L_common : PySem.W.keepIn K (.ref f_L_common) = true)
    (a_L_ahead : PySem.W.nsIn K mainGlobals "_law_ahead" = some (some (.ref f_L_ahead))) (l_L_ahead : K.lookup f_L_ahead = some ⟨oc_L_ahead, od_L_ahead, .func (PySem.W.fnOf "_law_ahead" "_law_ahead" (defArgs (top 53)) (defBody (top 53)) (defScope (top 53)) .none kV_L_ahead dc_L_ahead pm_L_ahead an_L_ahead cd_L_ahead ct_L_ahead), sl_L_ahead⟩) (c_L_ahead : PySem.W.codeIn K cd_L_ahead "_law_ahead" = true) (k_L_ahead : PySem.W.keepIn K (.ref f_L_ahead) = true)
    (a_L_share : PySem.W.nsIn K mainGlobals "_law_share" = some (some (.ref f_L_share))) (l_L_share : K.lookup f_L_share = some ⟨oc_L_share, od_L_share, .func (PySem.W.fnOf "_law_share" "_law_share" (defArgs (top 54)) (defBody (top 54)) (defScope (top 54)) .none kV_L_share dc_L_share pm_L_share an_L_share cd_L_share ct_L_share), sl_L_share⟩) (c_L_share : PySem.W.codeIn K cd_L_share "_law_share" = true) (k_L_share : PySem.W.keepIn K (.ref f_L_share) = true)
    (a_L_right : PySem.W.nsIn K mainGlobals "_law_right" = some (some (.ref f_L_right))) (l_L_right : K.lookup f_L_right = some ⟨oc_L_right, od_L_right, .func (PySem.W.fnOf "_law_right" "_law_right" (defArgs (top 55)) (defBody (top 55)) (defScope (top 55)) .none kV_L_right dc_L_right pm_L_right an_L_right cd_L_right ct_L_right), sl_L_right⟩) (c_L_right : PySem.W.codeIn K cd_L_right "_law_right" = true) (k_L_right : PySem.W.keepIn K (.ref f_L_right) = true)
    (a_law : PySem.W.nsIn K mainGlobals "law" = some (some (.ref f_law))) (l_law : K.lookup f_law = some ⟨oc_law, od_law, .func (PySem.W.fnOf "law" "law" (defArgs (top 56)) (defBody (top 56)) (defScope (top 56)) .none kV_law dc_law pm_law an_law cd_law ct_law), sl_law⟩) (c_law : PySem.W.codeIn K cd_law "law" = true) (k_law : PySem.W.keepIn K (.ref f_law) = true)
    (z_isinstance : PySem.W.nsIn K mainGlobals "isinstance" = some none)
    (z_int : PySem.W.nsIn K mainGlobals "int" = some none)
    (z_bool : PySem.W.nsIn K mainGlobals "bool" = some none)
    (z_str : PySem.W.nsIn K mainGlobals "str" = some none)
    (z_tuple : PySem.W.nsIn K mainGlobals "tuple" = some none)
    (z_list : PySem.W.nsIn K mainGlobals "list" = some none)
    (z_len : PySem.W.nsIn K mainGlobals "len" = some none)
    (z_all : PySem.W.nsIn K mainGlobals "all" = some none)
    (z_any : PySem.W.nsIn K mainGlobals "any" = some none)
    (z_max : PySem.W.nsIn K mainGlobals "max" = some none)
    (z_min : PySem.W.nsIn K mainGlobals "min" = some none)
    (z_sum : PySem.W.nsIn K mainGlobals "sum" = some none)
    (z_sorted : PySem.W.nsIn K mainGlobals "sorted" = some none)
    (z_set : PySem.W.nsIn K mainGlobals "set" = some none)
    (z_enumerate : PySem.W.nsIn K mainGlobals "enumerate" = some none)
    (z_range : PySem.W.nsIn K mainGlobals "range" = some none)
    (z_abs : PySem.W.nsIn K mainGlobals "abs" = some none)
    (g_gMS : PySem.W.nsIn K mainGlobals "MOST_SIZE" = some (some (.int 12 t1)))
    (g_gFG : PySem.W.nsIn K mainGlobals "FIGURES" = some (some (.str "0123" t2)))
    (g_gML : PySem.W.nsIn K mainGlobals "MOST_LEAVES" = some (some (.int 2000 t3)))
    (pg_C : PySem.W.plainGet K C Str.empty = true) (hd_C : PySem.W.hasDictIn K C = true) (po_C : PySem.W.plainOver K C = true) (sa_C : PySem.W.findIn K (.ref C) "__setattr__" = some (some (.builtin "object.__setattr__"))) (mk_C : PySem.W.makesIn K C = true) (kp_C : PySem.W.keepIn K (.ref C) = true)
    (nR_C : PySem.W.findIn K (.ref C) "rows" = some none) (nN_C : PySem.W.findIn K (.ref C) "numbers" = some none) :
    ∃ fd : FuncData, (∀ (s : Shared) (v : Value), BindsTo s fd ⟨[v], []⟩ [("_law_script", v)]) ∧ ∀ base : Heap, K.In base → base.Ns mainGlobals mg → FnOk l.prog w K mg base L2.CX0 22 fa fd ["_law_script"] (spLaw K) := by
  have e := hfa.symm.trans (PySem.W.mg_of X G a_law)
  cases e
  have T : Txt K mg C := {
    d_Rows := ⟨⟨_, _, fun_mk (st := inClass (top 19) 0) l_Rows c_Rows k_Rows, ⟨mk_C, a_Rows, i_Rows, kp_C⟩, PySem.W.mg_of X G a_C, ((fun_mk (st := inClass (top 19) 0) l_Rows c_Rows k_Rows).binds (ps := ["self"]) fun _ _ _ _ _ _ us hl => match us, hl with | [_], _ => rfl)⟩⟩,
    d_number := ⟨⟨_, _, fun_mk (st := inClass (top 19) 1) l_number c_number k_number, ⟨a_number, i_number, k_number⟩, ((fun_mk (st := inClass (top 19) 1) l_number c_number k_number).binds (ps := ["self", "quarters"]) fun _ _ _ _ _ _ us hl => match us, hl with | [_, _], _ => rfl)⟩⟩,
    d_quarters := ⟨⟨_, _, fun_mk (st := inClass (top 19) 2) l_quarters c_quarters k_quarters, ⟨a_quarters, i_quarters, k_quarters⟩, ((fun_mk (st := inClass (top 19) 2) l_quarters c_quarters k_quarters).binds (ps := ["self", "number"]) fun _ _ _ _ _ _ us hl => match us, hl with | [_, _], _ => rfl)⟩⟩,
    d_take := ⟨⟨_, _, fun_mk (st := inClass (top 19) 3) l_take c_take k_take, ⟨a_take, i_take, k_take⟩, ((fun_mk (st := inClass (top 19) 3) l_take c_take k_take).binds (ps := ["self", "telling"]) fun _ _ _ _ _ _ us hl => match us, hl with | [_, _], _ => rfl)⟩⟩,
    d_order := ⟨⟨_, _, fun_mk (st := inClass (top 19) 4) l_order c_order k_order, ⟨a_order, i_order, k_order⟩, ((fun_mk (st := inClass (top 19) 4) l_order c_order k_order).binds (ps := ["self", "number", "found"]) fun _ _ _ _ _ _ us hl => match us, hl with | [_, _, _], _ => rfl)⟩⟩,
    d_shape := ⟨⟨_, _, fun_mk (st := inClass (top 19) 5) l_shape c_shape k_shape, ⟨a_shape, i_shape, k_shape⟩, ((fun_mk (st := inClass (top 19) 5) l_shape c_shape k_shape).binds (ps := ["self", "n", "top"]) fun _ _ _ _ _ _ us hl => match us, hl with | [_, _, _], _ => rfl)⟩⟩,
    d_is_whole := ⟨⟨_, _, fun_mk (st := top 10) l_is_whole c_is_whole k_is_whole, PySem.W.mg_of X G a_is_whole, ((fun_mk (st := top 10) l_is_whole c_is_whole k_is_whole).binds (ps := ["thing"]) fun _ _ _ _ _ _ us hl => match us, hl with | [_], _ => rfl)⟩⟩,
    d_is_size := ⟨⟨_, _, fun_mk (st := top 11) l_is_size c_is_size k_is_size, PySem.W.mg_of X G a_is_size, ((fun_mk (st := top 11) l_is_size c_is_size k_is_size).binds (ps := ["thing"]) fun _ _ _ _ _ _ us hl => match us, hl with | [_], _ => rfl)⟩⟩,
    d_is_address := ⟨⟨_, _, fun_mk (st := top 12) l_is_address c_is_address k_is_address, PySem.W.mg_of X G a_is_address, ((fun_mk (st := top 12) l_is_address c_is_address k_is_address).binds (ps := ["n", "thing"]) fun _ _ _ _ _ _ us hl => match us, hl with | [_, _], _ => rfl)⟩⟩,
    d_is_cell := ⟨⟨_, _, fun_mk (st := top 13) l_is_cell c_is_cell k_is_cell, PySem.W.mg_of X G a_is_cell, ((fun_mk (st := top 13) l_is_cell c_is_cell k_is_cell).binds (ps := ["n", "row", "column"]) fun _ _ _ _ _ _ us hl => match us, hl with | [_, _, _], _ => rfl)⟩⟩,
    d_want_size := ⟨⟨_, _, fun_mk (st := top 14) l_want_size c_want_size k_want_size, PySem.W.mg_of X G a_want_size, ((fun_mk (st := top 14) l_want_size c_want_size k_want_size).binds (ps := ["n"]) fun _ _ _ _ _ _ us hl => match us, hl with | [_], _ => rfl)⟩⟩,
    d_want_address := ⟨⟨_, _, fun_mk (st := top 15) l_want_address c_want_address k_want_address, PySem.W.mg_of X G a_want_address, ((fun_mk (st := top 15) l_want_address c_want_address k_want_address).binds (ps := ["n", "address"]) fun _ _ _ _ _ _ us hl => match us, hl with | [_, _], _ => rfl)⟩⟩,
    d_want_cell := ⟨⟨_, _, fun_mk (st := top 16) l_want_cell c_want_cell k_want_cell, PySem.W.mg_of X G a_want_cell, ((fun_mk (st := top 16) l_want_cell c_want_cell k_want_cell).binds (ps := ["n", "row", "column"]) fun _ _ _ _ _ _ us hl => match us, hl with | [_, _, _], _ => rfl)⟩⟩,
    d_box_of := ⟨⟨_, _, fun_mk (st := top 17) l_box_of c_box_of k_box_of, PySem.W.mg_of X G a_box_of, ((fun_mk (st := top 17) l_box_of c_box_of k_box_of).binds (ps := ["n", "address"]) fun _ _ _ _ _ _ us hl => match us, hl with | [_, _], _ => rfl)⟩⟩,
    d_one_of := ⟨⟨_, _, fun_mk (st := top 20) l_one_of c_one_of k_one_of, PySem.W.mg_of X G a_one_of, ((fun_mk (st := top 20) l_one_of c_one_of k_one_of).binds (ps := ["telling"]) fun _ _ _ _ _ _ us hl => match us, hl with | [_], _ => rfl)⟩⟩,
    d_is_number := ⟨⟨_, _, fun_mk (st := top 22) l_is_number c_is_number k_is_number, PySem.W.mg_of X G a_is_number, ((fun_mk (st := top 22) l_is_number c_is_number k_is_number).binds (ps := ["thing", "most"]) fun _ _ _ _ _ _ us hl => match us, hl with | [_, _], _ => rfl)⟩⟩,
    d_is_row := ⟨⟨_, _, fun_mk (st := top 23) l_is_row c_is_row k_is_row, PySem.W.mg_of X G a_is_row, ((fun_mk (st := top 23) l_is_row c_is_row k_is_row).binds (ps := ["thing", "place"]) fun _ _ _ _ _ _ us hl => match us, hl with | [_, _], _ => rfl)⟩⟩,
    d_depths_of := ⟨⟨_, _, fun_mk (st := top 24) l_depths_of c_depths_of k_depths_of, PySem.W.mg_of X G a_depths_of, ((fun_mk (st := top 24) l_depths_of c_depths_of k_depths_of).binds (ps := ["rows"]) fun _ _ _ _ _ _ us hl => match us, hl with | [_], _ => rfl)⟩⟩,
    d_is_telling := ⟨⟨_, _, fun_mk (st := top 25) l_is_telling c_is_telling k_is_telling, PySem.W.mg_of X G a_is_telling, ((fun_mk (st := top 25) l_is_telling c_is_telling k_is_telling).binds (ps := ["thing"]) fun _ _ _ _ _ _ us hl => match us, hl with | [_], _ => rfl)⟩⟩,
    d_is_shape := ⟨⟨_, _, fun_mk (st := top 26) l_is_shape c_is_shape k_is_shape, PySem.W.mg_of X G a_is_shape, ((fun_mk (st := top 26) l_is_shape c_is_shape k_is_shape).binds (ps := ["thing"]) fun _ _ _ _ _ _ us hl => match us, hl with | [_], _ => rfl)⟩⟩,
    d_want_shape := ⟨⟨_, _, fun_mk (st := top 27) l_want_shape c_want_shape k_want_shape, PySem.W.mg_of X G a_want_shape, ((fun_mk (st := top 27) l_want_shape c_want_shape k_want_shape).binds (ps := ["thing"]) fun _ _ _ _ _ _ us hl => match us, hl with | [_], _ => rfl)⟩⟩,
    d_many_in := ⟨⟨_, _, fun_mk (st := top 30) l_many_in c_many_in k_many_in, PySem.W.mg_of X G a_many_in, ((fun_mk (st := top 30) l_many_in c_many_in k_many_in).binds (ps := ["shape"]) fun _ _ _ _ _ _ us hl => match us, hl with | [_], _ => rfl)⟩⟩,
    d_want_coarse := ⟨⟨_, _, fun_mk (st := top 31) l_want_coarse c_want_coarse k_want_coarse, PySem.W.mg_of X G a_want_coarse, ((fun_mk (st := top 31) l_want_coarse c_want_coarse k_want_coarse).binds (ps := ["shape"]) fun _ _ _ _ _ _ us hl => match us, hl with | [_], _ => rfl)⟩⟩,
    d_leaves_of := ⟨⟨_, _, fun_mk (st := top 32) l_leaves_of c_leaves_of k_leaves_of, PySem.W.mg_of X G a_leaves_of, ((fun_mk (st := top 32) l_leaves_of c_leaves_of k_leaves_of).binds (ps := ["shape"]) fun _ _ _ _ _ _ us hl => match us, hl with | [_], _ => rfl)⟩⟩,
    d_beyond := ⟨⟨_, _, fun_mk (st := top 34) l_beyond c_beyond k_beyond, PySem.W.mg_of X G a_beyond, ((fun_mk (st := top 34) l_beyond c_beyond k_beyond).binds (ps := ["number", "first", "size"]) fun _ _ _ _ _ _ us hl => match us, hl with | [_, _, _], _ => rfl)⟩⟩,
    d_rank := ⟨⟨_, _, fun_mk (st := top 35) l_rank c_rank k_rank, PySem.W.mg_of X G a_rank, ((fun_mk (st := top 35) l_rank c_rank k_rank).binds (ps := ["box", "row", "column"]) fun _ _ _ _ _ _ us hl => match us, hl with | [_, _, _], _ => rfl)⟩⟩,
    d_ranks := ⟨⟨_, _, fun_mk (st := top 36) l_ranks c_ranks k_ranks, PySem.W.mg_of X G a_ranks, ((fun_mk (st := top 36) l_ranks c_ranks k_ranks).binds (ps := ["shape", "row", "column"]) fun _ _ _ _ _ _ us hl => match us, hl with | [_, _, _], _ => rfl)⟩⟩,
    d_first_rank := ⟨⟨_, _, fun_mk (st := top 37) l_first_rank c_first_rank k_first_rank, PySem.W.mg_of X G a_first_rank, ((fun_mk (st := top 37) l_first_rank c_first_rank k_first_rank).binds (ps := ["told", "wanted"]) fun _ _ _ _ _ _ us hl => match us, hl with | [_, _], _ => rfl)⟩⟩,
    d_nearest := ⟨⟨_, _, fun_mk (st := top 38) l_nearest c_nearest k_nearest, PySem.W.mg_of X G a_nearest, ((fun_mk (st := top 38) l_nearest c_nearest k_nearest).binds (ps := ["shape", "row", "column"]) fun _ _ _ _ _ _ us hl => match us, hl with | [_, _, _], _ => rfl)⟩⟩,
    d_L_pot := ⟨⟨_, _, fun_mk (st := top 40) l_L_pot c_L_pot k_L_pot, PySem.W.mg_of X G a_L_pot, ((fun_mk (st := top 40) l_L_pot c_L_pot k_L_pot).binds (ps := ["_law_script", "_law_k"]) fun _ _ _ _ _ _ us hl => match us, hl with | [_, _], _ => rfl)⟩⟩,
    d_L_digit := ⟨⟨_, _, fun_mk (st := top 41) l_L_digit c_L_digit k_L_digit, PySem.W.mg_of X G a_L_digit, ((fun_mk (st := top 41) l_L_digit c_L_digit k_L_digit).binds (ps := ["_law_pot_here", "_law_many"]) fun _ _ _ _ _ _ us hl => match us, hl with | [_, _], _ => rfl)⟩⟩,
    d_L_box := ⟨⟨_, _, fun_mk (st := top 43) l_L_box c_L_box k_L_box, PySem.W.mg_of X G a_L_box, ((fun_mk (st := top 43) l_L_box c_L_box k_L_box).binds (ps := ["_law_pot_here", "_law_n", "_law_most"]) fun _ _ _ _ _ _ us hl => match us, hl with | [_, _, _], _ => rfl)⟩⟩,
    d_L_boxes := ⟨⟨_, _, fun_mk (st := top 44) l_L_boxes c_L_boxes k_L_boxes, PySem.W.mg_of X G a_L_boxes, ((fun_mk (st := top 44) l_L_boxes c_L_boxes k_L_boxes).binds (ps := ["_law_pot_here", "_law_n"]) fun _ _ _ _ _ _ us hl => match us, hl with | [_, _], _ => rfl)⟩⟩,
    d_L_meets := ⟨⟨_, _, fun_mk (st := top 45) l_L_meets c_L_meets k_L_meets, PySem.W.mg_of X G a_L_meets, ((fun_mk (st := top 45) l_L_meets c_L_meets k_L_meets).binds (ps := ["_law_box_here", "_law_row", "_law_column", "_law_side"]) fun _ _ _ _ _ _ us hl => match us, hl with | [_, _, _, _], _ => rfl)⟩⟩,
    d_L_has := ⟨⟨_, _, fun_mk (st := top 46) l_L_has c_L_has k_L_has, PySem.W.mg_of X G a_L_has, ((fun_mk (st := top 46) l_L_has c_L_has k_L_has).binds (ps := ["_law_box_here", "_law_row", "_law_column", "_law_side"]) fun _ _ _ _ _ _ us hl => match us, hl with | [_, _, _, _], _ => rfl)⟩⟩,
    d_L_number := ⟨⟨_, _, fun_mk (st := top 47) l_L_number c_L_number k_L_number, PySem.W.mg_of X G a_L_number, ((fun_mk (st := top 47) l_L_number c_L_number k_L_number).binds (ps := ["_law_rows", "_law_boxes_here", "_law_row", "_law_column", "_law_side"]) fun _ _ _ _ _ _ us hl => match us, hl with | [_, _, _, _, _], _ => rfl)⟩⟩,
    d_L_shape := ⟨⟨_, _, fun_mk (st := top 48) l_L_shape c_L_shape k_L_shape, PySem.W.mg_of X G a_L_shape, ((fun_mk (st := top 48) l_L_shape c_L_shape k_L_shape).binds (ps := ["_law_n", "_law_boxes_here"]) fun _ _ _ _ _ _ us hl => match us, hl with | [_, _], _ => rfl)⟩⟩,
    d_L_leaf := ⟨⟨_, _, fun_mk (st := top 49) l_L_leaf c_L_leaf k_L_leaf, PySem.W.mg_of X G a_L_leaf, ((fun_mk (st := top 49) l_L_leaf c_L_leaf k_L_leaf).binds (ps := ["_law_told", "_law_row", "_law_column"]) fun _ _ _ _ _ _ us hl => match us, hl with | [_, _, _], _ => rfl)⟩⟩,
    d_L_square := ⟨⟨_, _, fun_mk (st := top 50) l_L_square c_L_square k_L_square, PySem.W.mg_of X G a_L_square, ((fun_mk (st := top 50) l_L_square c_L_square k_L_square).binds (ps := ["_law_n", "_law_address"]) fun _ _ _ _ _ _ us hl => match us, hl with | [_, _], _ => rfl)⟩⟩,
    d_L_near_box := ⟨⟨_, _, fun_mk (st := top 51) l_L_near_box c_L_near_box k_L_near_box, PySem.W.mg_of X G a_L_near_box, ((fun_mk (st := top 51) l_L_near_box c_L_near_box k_L_near_box).binds (ps := ["_law_pot_here", "_law_boxes_here", "_law_n"]) fun _ _ _ _ _ _ us hl => match us, hl with | [_, _, _], _ => rfl)⟩⟩,
    d_L_common := ⟨⟨_, _, fun_mk (st := top 52) l_L_common c_L_common k_L_common, PySem.W.mg_of X G a_L_common, ((fun_mk (st := top 52) l_L_common c_L_common k_L_common).binds (ps := ["_law_box_here", "_law_other"]) fun _ _ _ _ _ _ us hl => match us, hl with | [_, _], _ => rfl)⟩⟩,
    d_L_ahead := ⟨⟨_, _, fun_mk (st := top 53) l_L_ahead c_L_ahead k_L_ahead, PySem.W.mg_of X G a_L_ahead, ((fun_mk (st := top 53) l_L_ahead c_L_ahead k_L_ahead).binds (ps := ["_law_row", "_law_column", "_law_far", "_law_place"]) fun _ _ _ _ _ _ us hl => match us, hl with | [_, _, _, _], _ => rfl)⟩⟩,
    d_L_share := ⟨⟨_, _, fun_mk (st := top 54) l_L_share c_L_share k_L_share, PySem.W.mg_of X G a_L_share, ((fun_mk (st := top 54) l_L_share c_L_share k_L_share).binds (ps := ["_law_ahead_here", "_law_box_here"]) fun _ _ _ _ _ _ us hl => match us, hl with | [_, _], _ => rfl)⟩⟩,
    d_L_right := ⟨⟨_, _, fun_mk (st := top 55) l_L_right c_L_right k_L_right, PySem.W.mg_of X G a_L_right, ((fun_mk (st := top 55) l_L_right c_L_right k_L_right).binds (ps := ["_law_told", "_law_row", "_law_column", "_law_some"]) fun _ _ _ _ _ _ us hl => match us, hl with | [_, _, _, _], _ => rfl)⟩⟩,
    d_law := ⟨⟨_, _, fun_mk (st := top 56) l_law c_law k_law, PySem.W.mg_of X G a_law, ((fun_mk (st := top 56) l_law c_law k_law).binds (ps := ["_law_script"]) fun _ _ _ _ _ _ us hl => match us, hl with | [_], _ => rfl)⟩⟩,
    b_isinstance := PySem.W.mg_none_of X G z_isinstance,
    b_int := PySem.W.mg_none_of X G z_int,
    b_bool := PySem.W.mg_none_of X G z_bool,
    b_str := PySem.W.mg_none_of X G z_str,
    b_tuple := PySem.W.mg_none_of X G z_tuple,
    b_list := PySem.W.mg_none_of X G z_list,
    b_len := PySem.W.mg_none_of X G z_len,
    b_all := PySem.W.mg_none_of X G z_all,
    b_any := PySem.W.mg_none_of X G z_any,
    b_max := PySem.W.mg_none_of X G z_max,
    b_min := PySem.W.mg_none_of X G z_min,
    b_sum := PySem.W.mg_none_of X G z_sum,
    b_sorted := PySem.W.mg_none_of X G z_sorted,
    b_set := PySem.W.mg_none_of X G z_set,
    b_enumerate := PySem.W.mg_none_of X G z_enumerate,
    b_range := PySem.W.mg_none_of X G z_range,
    b_abs := PySem.W.mg_none_of X G z_abs,
    gMS := ⟨_, PySem.W.mg_of X G g_gMS, ⟨t1, rfl⟩⟩,
    gFG := ⟨_, PySem.W.mg_of X G g_gFG, ⟨t2, rfl⟩⟩,
    gML := ⟨_, PySem.W.mg_of X G g_gML, ⟨t3, rfl⟩⟩,
    cl := ⟨pg_C, hd_C, po_C, sa_C⟩,
    nR := nR_C,
    nN := nN_C }
  exact ⟨PySem.W.fnOf "law" "law" (defArgs (top 56)) (defBody (top 56)) (defScope (top 56)) .none kV_law dc_law pm_law an_law cd_law ct_law, fun s v => .of_eq rfl, fun base _ _ => ok_law T (fun_mk (st := top 56) l_law c_law k_law)⟩
theorem walk {l : PySem.W.OpenLaw} {q : Program} {loose : List Str} {XP : (Str → Option Value) → Heap → Prop} {YP : World → Heap → Prop} {d : DefRec} {K : Params → PySem.W.Frag} (hn : l.most = some 63) (hdf : d.params.defaults = [])
    (hY : ∀ (w : World) (h : Heap), YP w h → (K w.params).In h)
    (F : ∀ (w : World) (mg : Str → Option Value) (fa : Addr) (h : Heap), (K w.params).In h → h.Ns mainGlobals mg → mg d.name = some (.ref fa) →
      ∃ fd : FuncData, (∀ (s : Shared) (u : Value), BindsTo s fd ⟨[u], []⟩ [("_law_script", u)]) ∧ ∀ base : Heap, (K w.params).In base → base.Ns mainGlobals mg → FnOk l.prog w (K w.params) mg base L2.CX0 22 fa fd ["_law_script"] (spLaw (K w.params))) :
    PySem.W.WalkO q loose XP YP l.row.toRowW d [] (fun f vs => PySem.call f vs) :=
  L2.walk_of (n := 63) (k := 22) (x := "_law_script") (CX := fun _ => L2.CX0) (sp := fun w => spLaw (K w.params)) hn (by decide) hdf ⟨rfl, by decide, by decide⟩ hY F (fun _ _ a ns hl _ hS => ⟨a, ns, rfl, hS, Nat.le_trans hl (by decide), fun _ _ => rfl⟩) fun _ _ _ _ _ z => z
end QW
set_option Elab.async false
set_option maxRecDepth 100000
open PySem PySem.W PyProof.Rows in
set_option maxRecDepth 100000 in
set_option maxHeartbeats 0 in
theorem PySem.Challenge.cw_quarterfold_k54_whole_nearest_on_great_f_holds : PySem.Challenge.rw_quarterfold_k54_whole_nearest_on_great_f.Holds := by
  w_on; o_law; k_head; (case hw => w_witness2)
  k_fill
  refine QW.walk (l := PySem.Challenge.rw_quarterfold_k54_whole_nearest_on_great_f) rfl rfl (fun w h Y => PySem.W.kIn_of Y) ?F
  case F =>
    intro w mg fa h KX G hmg
    refine' QW.all_txt KX G hmg ?a_C ?a_Rows ?i_Rows ?l_Rows ?c_Rows ?k_Rows ?a_number ?i_number ?l_number ?c_number ?k_number ?a_quarters ?i_quarters ?l_quarters ?c_quarters ?k_quarters ?a_take ?i_take ?l_take ?c_take ?k_take ?a_order ?i_order ?l_order ?c_order ?k_order ?a_shape ?i_shape ?l_shape ?c_shape ?k_shape ?a_is_whole ?l_is_whole ?c_is_whole ?k_is_whole ?a_is_size ?l_is_size ?c_is_size ?k_is_size ?a_is_address ?l_is_address ?c_is_address ?k_is_address ?a_is_cell ?l_is_cell ?c_is_cell ?k_is_cell ?a_want_size ?l_want_size ?c_want_size ?k_want_size ?a_want_address ?l_want_address ?c_want_address ?k_want_address ?a_want_cell ?l_want_cell ?c_want_cell ?k_want_cell ?a_box_of ?l_box_of ?c_box_of ?k_box_of ?a_one_of ?l_one_of ?c_one_of ?k_one_of ?a_is_number ?l_is_number ?c_is_number ?k_is_number ?a_is_row ?l_is_row ?c_is_row ?k_is_row ?a_depths_of ?l_depths_of ?c_depths_of ?k_depths_of ?a_is_telling ?l_is_telling ?c_is_telling ?k_is_telling ?a_is_shape ?l_is_shape ?c_is_shape ?k_is_shape ?a_want_shape ?l_want_shape ?c_want_shape ?k_want_shape ?a_many_in ?l_many_in ?c_many_in ?k_many_in ?a_want_coarse ?l_want_coarse ?c_want_coarse ?k_want_coarse ?a_leaves_of ?l_leaves_of ?c_leaves_of ?k_leaves_of ?a_beyond ?l_beyond ?c_beyond ?k_beyond ?a_rank ?l_rank ?c_rank ?k_rank ?a_ranks ?l_ranks ?c_ranks ?k_ranks ?a_first_rank ?l_first_rank ?c_first_rank ?k_first_rank ?a_nearest ?l_nearest ?c_nearest ?k_nearest ?a_L_pot ?l_L_pot ?c_L_pot ?k_L_pot ?a_L_digit ?l_L_digit ?c_L_digit ?k_L_digit ?a_L_box ?l_L_box ?c_L_box ?k_L_box ?a_L_boxes ?l_L_boxes ?c_L_boxes ?k_L_boxes ?a_L_meets ?l_L_meets ?c_L_meets ?k_L_meets ?a_L_has ?l_L_has ?c_L_has ?k_L_has ?a_L_number ?l_L_number ?c_L_number ?k_L_number ?a_L_shape ?l_L_shape ?c_L_shape ?k_L_shape ?a_L_leaf ?l_L_leaf ?c_L_leaf ?k_L_leaf ?a_L_square ?l_L_square ?c_L_square ?k_L_square ?a_L_near_box ?l_L_near_box ?c_L_near_box ?k_L_near_box ?a_L_common ?l_L_common ?c_L_common ?k_L_common ?a_L_ahead ?l_L_ahead ?c_L_ahead ?k_L_ahead ?a_L_share ?l_L_share ?c_L_share ?k_L_share ?a_L_right ?l_L_right ?c_L_right ?k_L_right ?a_law ?l_law ?c_law ?k_law ?z_isinstance ?z_int ?z_bool ?z_str ?z_tuple ?z_list ?z_len ?z_all ?z_any ?z_max ?z_min ?z_sum ?z_sorted ?z_set ?z_enumerate ?z_range ?z_abs ?g_gMS ?g_gFG ?g_gML ?pg_C ?hd_C ?po_C ?sa_C ?mk_C ?kp_C ?nR_C ?nN_C
    (case a_C => k_is)
    (case a_Rows => k_is)
    (case i_Rows => k_is)
    (case l_Rows => k_is)
    (case c_Rows => k_is)
    (case k_Rows => k_is)
    (case a_number => k_is)
    (case i_number => k_is)
    (case l_number => k_is)
    (case c_number => k_is)
    (case k_number => k_is)
    (case a_quarters => k_is)
    (case i_quarters => k_is)
    (case l_quarters => k_is)
    (case c_quarters => k_is)
    (case k_quarters => k_is)
    (case a_take => k_is)
    (case i_take => k_is)
    (case l_take => k_is)
    (case c_take => k_is)
    (case k_take => k_is)
    (case a_order => k_is)
    (case i_order => k_is)
    (case l_order => k_is)
    (case c_order => k_is)
    (case k_order => k_is)
    (case a_shape => k_is)
    (case i_shape => k_is)
    (case l_shape => k_is)
    (case c_shape => k_is)
    (case k_shape => k_is)
    (case a_is_whole => k_is)
    (case l_is_whole => k_is)
    (case c_is_whole => k_is)
    (case k_is_whole => k_is)
    (case a_is_size => k_is)
    (case l_is_size => k_is)
    (case c_is_size => k_is)
    (case k_is_size => k_is)
    (case a_is_address => k_is)
    (case l_is_address => k_is)
    (case c_is_address => k_is)
    (case k_is_address => k_is)
    (case a_is_cell => k_is)
    (case l_is_cell => k_is)
    (case c_is_cell => k_is)
    (case k_is_cell => k_is)
    (case a_want_size => k_is)
    (case l_want_size => k_is)
    (case c_want_size => k_is)
    (case k_want_size => k_is)
    (case a_want_address => k_is)
    (case l_want_address => k_is)
    (case c_want_address => k_is)
    (case k_want_address => k_is)
    (case a_want_cell => k_is)
    (case l_want_cell => k_is)
    (case c_want_cell => k_is)
    (case k_want_cell => k_is)
    (case a_box_of => k_is)
    (case l_box_of => k_is)
    (case c_box_of => k_is)
    (case k_box_of => k_is)
    (case a_one_of => k_is)
    (case l_one_of => k_is)
    (case c_one_of => k_is)
    (case k_one_of => k_is)
    (case a_is_number => k_is)
    (case l_is_number => k_is)
    (case c_is_number => k_is)
    (case k_is_number => k_is)
    (case a_is_row => k_is)
    (case l_is_row => k_is)
    (case c_is_row => k_is)
    (case k_is_row => k_is)
    (case a_depths_of => k_is)
    (case l_depths_of => k_is)
    (case c_depths_of => k_is)
    (case k_depths_of => k_is)
    (case a_is_telling => k_is)
    (case l_is_telling => k_is)
    (case c_is_telling => k_is)
    (case k_is_telling => k_is)
    (case a_is_shape => k_is)
    (case l_is_shape => k_is)
    (case c_is_shape => k_is)
    (case k_is_shape => k_is)
    (case a_want_shape => k_is)
    (case l_want_shape => k_is)
    (case c_want_shape => k_is)
    (case k_want_shape => k_is)
    (case a_many_in => k_is)
    (case l_many_in => k_is)
    (case c_many_in => k_is)
    (case k_many_in => k_is)
    (case a_want_coarse => k_is)
    (case l_want_coarse => k_is)
    (case c_want_coarse => k_is)
    (case k_want_coarse => k_is)
    (case a_leaves_of => k_is)
    (case l_leaves_of => k_is)
    (case c_leaves_of => k_is)
    (case k_leaves_of => k_is)
    (case a_beyond => k_is)
    (case l_beyond => k_is)
    (case c_beyond => k_is)
    (case k_beyond => k_is)
    (case a_rank => k_is)
    (case l_rank => k_is)
    (case c_rank => k_is)
    (case k_rank => k_is)
    (case a_ranks => k_is)
    (case l_ranks => k_is)
    (case c_ranks => k_is)
    (case k_ranks => k_is)
    (case a_first_rank => k_is)
    (case l_first_rank => k_is)
    (case c_first_rank => k_is)
    (case k_first_rank => k_is)
    (case a_nearest => k_is)
    (case l_nearest => k_is)
    (case c_nearest => k_is)
    (case k_nearest => k_is)
    (case a_L_pot => k_is)
    (case l_L_pot => k_is)
    (case c_L_pot => k_is)
    (case k_L_pot => k_is)
    (case a_L_digit => k_is)
    (case l_L_digit => k_is)
    (case c_L_digit => k_is)
    (case k_L_digit => k_is)
    (case a_L_box => k_is)
    (case l_L_box => k_is)
    (case c_L_box => k_is)
    (case k_L_box => k_is)
    (case a_L_boxes => k_is)
    (case l_L_boxes => k_is)
    (case c_L_boxes => k_is)
    (case k_L_boxes => k_is)
    (case a_L_meets => k_is)
    (case l_L_meets => k_is)
    (case c_L_meets => k_is)
    (case k_L_meets => k_is)
    (case a_L_has => k_is)
    (case l_L_has => k_is)
    (case c_L_has => k_is)
    (case k_L_has => k_is)
    (case a_L_number => k_is)
    (case l_L_number => k_is)
    (case c_L_number => k_is)
    (case k_L_number => k_is)
    (case a_L_shape => k_is)
    (case l_L_shape => k_is)
    (case c_L_shape => k_is)
    (case k_L_shape => k_is)
    (case a_L_leaf => k_is)
    (case l_L_leaf => k_is)
    (case c_L_leaf => k_is)
    (case k_L_leaf => k_is)
    (case a_L_square => k_is)
    (case l_L_square => k_is)
    (case c_L_square => k_is)
    (case k_L_square => k_is)
    (case a_L_near_box => k_is)
    (case l_L_near_box => k_is)
    (case c_L_near_box => k_is)
    (case k_L_near_box => k_is)
    (case a_L_common => k_is)
    (case l_L_common => k_is)
    (case c_L_common => k_is)
    (case k_L_common => k_is)
    (case a_L_ahead => k_is)
    (case l_L_ahead => k_is)
    (case c_L_ahead => k_is)
    (case k_L_ahead => k_is)
    (case a_L_share => k_is)
    (case l_L_share => k_is)
    (case c_L_share => k_is)
    (case k_L_share => k_is)
    (case a_L_right => k_is)
    (case l_L_right => k_is)
    (case c_L_right => k_is)
    (case k_L_right => k_is)
    (case a_law => k_is)
    (case l_law => k_is)
    (case c_law => k_is)
    (case k_law => k_is)
    (case z_isinstance => k_is)
    (case z_int => k_is)
    (case z_bool => k_is)
    (case z_str => k_is)
    (case z_tuple => k_is)
    (case z_list => k_is)
    (case z_len => k_is)
    (case z_all => k_is)
    (case z_any => k_is)
    (case z_max => k_is)
    (case z_min => k_is)
    (case z_sum => k_is)
    (case z_sorted => k_is)
    (case z_set => k_is)
    (case z_enumerate => k_is)
    (case z_range => k_is)
    (case z_abs => k_is)
    (case g_gMS => k_is)
    (case g_gFG => k_is)
    (case g_gML => k_is)
    (case pg_C => k_is)
    (case hd_C => k_is)
    (case po_C => k_is)
    (case sa_C => k_is)
    (case mk_C => k_is)
    (case kp_C => k_is)
    (case nR_C => k_is)
    (case nN_C => k_is)
#print axioms PySem.Challenge.cw_quarterfold_k54_whole_nearest_on_great_f_holds
