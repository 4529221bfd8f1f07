import PyProof.Rows.All
import Wide.All
import OpenK.AllK
import Wide.FinOn
import KE.DatumOrd
import KE.GoesEnum
import KE.GoesMore
import HandS.ForMost
import HandS.Exc
import HandS.ExcOwn
import HandS.SortKw
import HandS.Walk
import HandS.Defaults
import HandS.MakeKw
import HandS.MakeKwOnly
import HandS.Property
import HandS.ExcField
import HandS.IsInst
import HandS.Evl
import HandS.ExcSuper
import HandS.ExcInit
import HandS.HeadHook1
import HandS.HeadHook2
import KE.KSuper
import KE.KExcSuper
import HandS.WordsExc
import HandS.Zip
import HandS.Head0
import HandS.Head1
import HandS.Head2
import HandS.HeadEnd
import Lean
import PySem.Challenge.RW_neverlate_k71_whole_waiting
set_option autoImplicit false
set_option linter.all false
/-! The plain law: what the rows say of windows, what coming round says, the walk. No program here. -/
namespace NLM
variable {N : Type} [DecidableEq N]

/-- a task: kinds (name, cost, deadline), ways (source, target, distance) -/
structure Tk (N : Type) where
  name : N
  kinds : List (N × Int × Int)
  ways : List (N × N × Int)

def kn (ks : List (N × Int × Int)) (n : N) : Nat := ks.findIdx fun k => decide (k.1 = n)
def waysFrom (T : Tk N) (n : N) : List (N × Int) := (T.ways.filter fun w => decide (w.1 = n)).map fun w => (w.2.1, w.2.2)
def ownW (k : N × Int × Int) (size : Int) : Int := if k.2.2 ≤ size then k.2.1 else 0
def look (f : List (List Int)) (i j : Nat) : Int := (f.getD i []).getD j 0
def bestC (T : Tk N) (name : N) (size : Int) (found : List (List Int)) : Int :=
  (waysFrom T name).foldl (fun best w => if w.2 ≤ size then max best (look found (size - w.2).toNat (kn T.kinds w.1)) else best) 0
def rowsN (T : Tk N) : Nat → List (List Int)
  | 0 => []
  | n + 1 => rowsN T n ++ [T.kinds.map fun k => ownW k (n : Int) + bestC T k.1 (n : Int) (rowsN T n)]
def rowOf (T : Tk N) (n : Nat) : List Int := T.kinds.map fun k => ownW k (n : Int) + bestC T k.1 (n : Int) (rowsN T n)
def num (T : Tk N) (i n : Nat) : Int := (rowOf T n).getD i 0
def maxL (l : List Int) : Int := l.foldl max (l.headD 0)
def demand (T : Tk N) (n : Nat) : Int := maxL (rowOf T n)

theorem rowsN_len (T : Tk N) : ∀ n, (rowsN T n).length = n
  | 0 => rfl
  | n + 1 => by
    show (rowsN T n ++ [_]).length = n + 1
    rw [List.length_append, rowsN_len T n] <;> rfl
theorem rowsN_get (T : Tk N) : ∀ {n i : Nat}, i < n → (rowsN T n)[i]? = some (rowOf T i)
  | 0, i, h => absurd h (Nat.not_lt_zero _)
  | n + 1, i, h => by
    show (rowsN T n ++ [rowOf T n])[i]? = _
    by_cases e : i < n
    · rw [List.getElem?_append_left (by rw [rowsN_len]; exact e)]
      exact rowsN_get T e
    · have e2 : i = n := by omega
      subst e2
      rw [List.getElem?_append_right (by rw [rowsN_len]; exact Nat.le_refl _), rowsN_len]
      simp
theorem look_rows (T : Tk N) {n i j : Nat} (h : i < n) : look (rowsN T n) i j = num T j i := by
  have e : (rowsN T n).getD i [] = rowOf T i := by
    rw [List.getD_eq_getElem?_getD, rowsN_get T h]
    rfl
  unfold look num
  rw [e]
theorem rowOf_len (T : Tk N) (n : Nat) : (rowOf T n).length = T.kinds.length := by
  unfold rowOf
  rw [List.length_map]
theorem num_eq (T : Tk N) {i n : Nat} {k : N × Int × Int} (h : T.kinds[i]? = some k) : num T i n = ownW k n + bestC T k.1 n (rowsN T n) := by
  unfold num rowOf
  rw [List.getD_eq_getElem?_getD, List.getElem?_map, h]
  rfl

/-! ### a fold of maxima -/
section
variable {α : Type} (c : α → Prop) [DecidablePred c] (g : α → Int)
def fmax (l : List α) (b : Int) : Int := l.foldl (fun b w => if c w then max b (g w) else b) b
theorem fmax_ge : ∀ (l : List α) (b : Int), b ≤ fmax c g l b
  | [], b => Int.le_refl _
  | a :: l, b => by
    have ih := fmax_ge l (if c a then max b (g a) else b)
    show b ≤ fmax c g l (if c a then max b (g a) else b)
    split at ih <;> rename_i h
    · rw [if_pos h]; omega
    · rw [if_neg h]; exact ih
theorem fmax_mem : ∀ (l : List α) (b : Int) {w : α}, w ∈ l → c w → g w ≤ fmax c g l b
  | [], b, w, hw, _ => by cases hw
  | a :: l, b, w, hw, hc => by
    show g w ≤ fmax c g l (if c a then max b (g a) else b)
    rcases List.mem_cons.mp hw with rfl | hw
    · rw [if_pos hc]
      have := fmax_ge c g l (max b (g w))
      omega
    · exact fmax_mem l _ hw hc
theorem fmax_or : ∀ (l : List α) (b : Int), fmax c g l b = b ∨ ∃ w ∈ l, c w ∧ fmax c g l b = g w
  | [], b => .inl rfl
  | a :: l, b => by
    show fmax c g l (if c a then max b (g a) else b) = b ∨ ∃ w ∈ a :: l, c w ∧ fmax c g l (if c a then max b (g a) else b) = g w
    rcases fmax_or l (if c a then max b (g a) else b) with h | ⟨w, hw, hc, h⟩
    · by_cases hc : c a
      · rw [if_pos hc] at h ⊢
        rcases (show max b (g a) = b ∨ max b (g a) = g a by omega) with e | e
        · exact .inl (h.trans e)
        · exact .inr ⟨a, List.mem_cons_self, hc, h.trans e⟩
      · rw [if_neg hc] at h ⊢
        exact .inl h
    · exact .inr ⟨w, List.mem_cons_of_mem _ hw, hc, h⟩
end

/-! ### greatest of a list -/
theorem foldmax_ge : ∀ (l : List Int) (b : Int), b ≤ l.foldl max b ∧ ∀ y ∈ l, y ≤ l.foldl max b
  | [], b => ⟨Int.le_refl _, fun y h => by cases h⟩
  | a :: l, b => by
    obtain ⟨h1, h2⟩ := foldmax_ge l (max b a)
    refine ⟨?_, fun y hy => ?_⟩
    · show b ≤ l.foldl max (max b a)
      omega
    · show y ≤ l.foldl max (max b a)
      rcases List.mem_cons.mp hy with rfl | hy
      · omega
      · exact h2 y hy
theorem foldmax_or : ∀ (l : List Int) (b : Int), l.foldl max b = b ∨ l.foldl max b ∈ l
  | [], b => .inl rfl
  | a :: l, b => by
    rcases foldmax_or l (max b a) with h | h
    · show l.foldl max (max b a) = b ∨ l.foldl max (max b a) ∈ a :: l
      rw [h]
      rcases (show max b a = b ∨ max b a = a by omega) with e | e
      · exact .inl e
      · rw [e]; exact .inr List.mem_cons_self
    · exact .inr (List.mem_cons_of_mem _ h)
theorem maxL_ge {l : List Int} {y : Int} (h : y ∈ l) : y ≤ maxL l := (foldmax_ge l _).2 y h
theorem maxL_mem {l : List Int} (h : l ≠ []) : maxL l ∈ l := by
  cases l with
  | nil => exact absurd rfl h
  | cons a l =>
    rcases foldmax_or (a :: l) ((a :: l).headD 0) with e | e
    · unfold maxL
      rw [e]
      exact List.mem_cons_self
    · exact e
theorem maxL_eq {l : List Int} {m : Int} (h : m ∈ l) (hle : ∀ y ∈ l, y ≤ m) : maxL l = m := by
  have h1 := maxL_ge h
  have h2 := hle _ (maxL_mem (List.ne_nil_of_mem h))
  omega

/-! ### what a task must have -/
structure Wf (T : Tk N) : Prop where
  ne : T.kinds ≠ []
  nd : (T.kinds.map (·.1)).Nodup
  cost : ∀ k ∈ T.kinds, 0 < k.2.1
  one : ∀ k ∈ T.kinds, k.2.2 = 1
  dist : ∀ w ∈ T.ways, 1 ≤ w.2.2
  src : ∀ w ∈ T.ways, w.1 ∈ T.kinds.map (·.1)
  tgt : ∀ w ∈ T.ways, w.2.1 ∈ T.kinds.map (·.1)

theorem kn_get {ks : List (N × Int × Int)} {n : N} (h : n ∈ ks.map (·.1)) : ∃ k, ks[kn ks n]? = some k ∧ k.1 = n ∧ kn ks n < ks.length := by
  obtain ⟨k, hk, e⟩ := List.mem_map.mp h
  have hlt : kn ks n < ks.length := List.findIdx_lt_length_of_exists ⟨k, hk, decide_eq_true e⟩
  refine ⟨ks[kn ks n], List.getElem?_eq_getElem hlt, ?_, hlt⟩
  have q := List.findIdx_getElem (p := fun k : N × Int × Int => decide (k.1 = n)) (xs := ks) (w := hlt)
  exact of_decide_eq_true q
theorem kn_at {ks : List (N × Int × Int)} (nd : (ks.map (·.1)).Nodup) {i : Nat} {k : N × Int × Int} (h : ks[i]? = some k) : kn ks k.1 = i := by
  obtain ⟨k', h1, h2, h3⟩ := kn_get (ks := ks) (n := k.1) (List.mem_map.mpr ⟨k, List.mem_of_getElem? h, rfl⟩)
  have a1 : (ks.map (·.1))[kn ks k.1]? = some k.1 := by rw [List.getElem?_map, h1, Option.map_some, h2]
  have a2 : (ks.map (·.1))[i]? = some k.1 := by rw [List.getElem?_map, h, Option.map_some]
  obtain ⟨b1, c1⟩ := List.getElem?_eq_some_iff.mp a1
  obtain ⟨b2, c2⟩ := List.getElem?_eq_some_iff.mp a2
  exact (List.getElem_inj nd).mp (c1.trans c2.symm)

section
variable {T : Tk N}
theorem mem_from {n : N} {x : N × Int} : x ∈ waysFrom T n ↔ ∃ w ∈ T.ways, w.1 = n ∧ x = (w.2.1, w.2.2) := by
  unfold waysFrom
  constructor
  · intro h
    obtain ⟨w, hw, e⟩ := List.mem_map.mp h
    obtain ⟨h1, h2⟩ := List.mem_filter.mp hw
    exact ⟨w, h1, of_decide_eq_true h2, e.symm⟩
  · rintro ⟨w, h1, h2, rfl⟩
    exact List.mem_map.mpr ⟨w, List.mem_filter.mpr ⟨h1, decide_eq_true h2⟩, rfl⟩
theorem bestC_fmax (name : N) (size : Int) (found : List (List Int)) :
    bestC T name size found = fmax (fun w : N × Int => w.2 ≤ size) (fun w => look found (size - w.2).toNat (kn T.kinds w.1)) (waysFrom T name) 0 := rfl
/-- the best behind a kind: not less than 0 -/
theorem best_nonneg (name : N) (n : Nat) : 0 ≤ bestC T name n (rowsN T n) := by
  rw [bestC_fmax]
  exact fmax_ge _ _ _ _
theorem best_ge (W : Wf T) {w : N × N × Int} (hw : w ∈ T.ways) {n d : Nat} (hd : w.2.2 = (d : Int)) (hn : d ≤ n) : num T (kn T.kinds w.2.1) (n - d) ≤ bestC T w.1 n (rowsN T n) := by
  have h1 := W.dist w hw
  rw [bestC_fmax]
  have q := fmax_mem (fun w : N × Int => w.2 ≤ (n : Int)) (fun w => look (rowsN T n) ((n : Int) - w.2).toNat (kn T.kinds w.1)) (waysFrom T w.1) 0
    (w := (w.2.1, w.2.2)) (mem_from.mpr ⟨w, hw, rfl, rfl⟩) (by show w.2.2 ≤ (n : Int); omega)
  have e : ((n : Int) - w.2.2).toNat = n - d := by omega
  have q2 : look (rowsN T n) ((n : Int) - w.2.2).toNat (kn T.kinds w.2.1) ≤ _ := q
  rw [e, look_rows T (by omega)] at q2
  exact q2
theorem best_or (W : Wf T) (name : N) (n : Nat) : bestC T name n (rowsN T n) = 0 ∨ ∃ w ∈ T.ways, w.1 = name ∧ ∃ d : Nat, w.2.2 = (d : Int) ∧ 1 ≤ d ∧ d ≤ n ∧ bestC T name n (rowsN T n) = num T (kn T.kinds w.2.1) (n - d) := by
  rw [bestC_fmax]
  rcases fmax_or (fun w : N × Int => w.2 ≤ (n : Int)) (fun w => look (rowsN T n) ((n : Int) - w.2).toNat (kn T.kinds w.1)) (waysFrom T name) 0 with h | ⟨x, hx, hc, h⟩
  · exact .inl h
  · obtain ⟨w, hw, e1, rfl⟩ := mem_from.mp hx
    have h1 := W.dist w hw
    have hc2 : w.2.2 ≤ (n : Int) := hc
    obtain ⟨d, hd⟩ : ∃ d : Nat, w.2.2 = (d : Int) := ⟨w.2.2.toNat, by omega⟩
    refine .inr ⟨w, hw, e1, d, hd, by omega, by omega, ?_⟩
    rw [h]
    have e : ((n : Int) - w.2.2).toNat = n - d := by omega
    show look (rowsN T n) ((n : Int) - w.2.2).toNat (kn T.kinds w.2.1) = _
    rw [e, look_rows T (by omega)]
theorem num_out {i n : Nat} (h : T.kinds[i]? = none) : num T i n = 0 := by
  unfold num rowOf
  rw [List.getD_eq_getElem?_getD, List.getElem?_map, h]
  rfl
theorem own_pos (W : Wf T) {i : Nat} {k : N × Int × Int} (h : T.kinds[i]? = some k) {n : Nat} (hn : 1 ≤ n) : ownW k n = k.2.1 := by
  unfold ownW
  rw [W.one k (List.mem_of_getElem? h), if_pos (by omega)]
theorem own_zero (W : Wf T) {i : Nat} {k : N × Int × Int} (h : T.kinds[i]? = some k) : ownW k (0 : Nat) = 0 := by
  unfold ownW
  rw [W.one k (List.mem_of_getElem? h), if_neg (by omega)]
theorem num_nonneg (W : Wf T) (i n : Nat) : 0 ≤ num T i n := by
  cases h : T.kinds[i]? with
  | none => rw [num_out h]; exact Int.le_refl _
  | some k =>
    rw [num_eq T h]
    have h1 := best_nonneg (T := T) k.1 n
    have h2 := W.cost k (List.mem_of_getElem? h)
    have h3 : 0 ≤ ownW k n := by unfold ownW; split <;> omega
    omega
theorem num_zero (W : Wf T) (i : Nat) : num T i 0 = 0 := by
  cases h : T.kinds[i]? with
  | none => exact num_out h
  | some k =>
    rw [num_eq T h, own_zero W h]
    rcases best_or W k.1 0 with e | ⟨w, _, _, d, _, h1, h2, _⟩
    · rw [e]; rfl
    · omega
theorem num_mono1 (W : Wf T) : ∀ (n i : Nat), num T i n ≤ num T i (n + 1) := by
  intro n
  induction n using Nat.strongRecOn with
  | ind n ih =>
    intro i
    cases h : T.kinds[i]? with
    | none => rw [num_out h, num_out h]; exact Int.le_refl _
    | some k =>
      rw [num_eq T h, num_eq T h]
      have h1 : ownW k n ≤ ownW k (n + 1 : Nat) := by
        have hc := W.cost k (List.mem_of_getElem? h)
        unfold ownW
        split <;> split <;> omega
      have h2 : bestC T k.1 n (rowsN T n) ≤ bestC T k.1 (n + 1 : Nat) (rowsN T (n + 1)) := by
        rcases best_or W k.1 n with e | ⟨w, hw, e1, d, hd, d1, d2, e⟩
        · rw [e]; exact best_nonneg _ _
        · rw [e]
          have a := ih (n - d) (by omega) (kn T.kinds w.2.1)
          have b := best_ge W hw hd (n := n + 1) (by omega)
          rw [e1] at b
          rw [show n + 1 - d = n - d + 1 by omega] at b
          omega
      omega
theorem num_mono (W : Wf T) (i : Nat) {n m : Nat} (h : n ≤ m) : num T i n ≤ num T i m := by
  induction h with
  | refl => exact Int.le_refl _
  | step _ ih => exact Int.le_trans ih (num_mono1 W _ i)
theorem demand_ge {i : Nat} (n : Nat) (h : i < T.kinds.length) : num T i n ≤ demand T n := by
  refine maxL_ge ?_
  unfold num
  have q : i < (rowOf T n).length := by rw [rowOf_len]; exact h
  rw [List.getD_eq_getElem?_getD, List.getElem?_eq_getElem q]
  exact List.getElem_mem q
theorem demand_at (W : Wf T) (n : Nat) : ∃ i, i < T.kinds.length ∧ demand T n = num T i n := by
  have hne : rowOf T n ≠ [] := fun e => W.ne (List.eq_nil_of_length_eq_zero (by rw [← rowOf_len T n, e]; rfl))
  obtain ⟨i, hi, e⟩ := List.mem_iff_getElem.mp (maxL_mem hne)
  refine ⟨i, by rw [← rowOf_len T n]; exact hi, ?_⟩
  unfold num demand
  rw [List.getD_eq_getElem?_getD, List.getElem?_eq_getElem hi, ← e]
  rfl
theorem demand_nonneg (W : Wf T) (n : Nat) : 0 ≤ demand T n := by
  obtain ⟨i, _, e⟩ := demand_at W n
  rw [e]
  exact num_nonneg W i n
theorem demand_mono (W : Wf T) {n m : Nat} (h : n ≤ m) : demand T n ≤ demand T m := by
  obtain ⟨i, hi, e⟩ := demand_at W n
  rw [e]
  exact Int.le_trans (num_mono W i h) (demand_ge m hi)
end

/-! ### releases -/
def costOf (ks : List (N × Int × Int)) (n : N) : Int := match ks.find? (fun k => decide (k.1 = n)) with
  | some k => k.2.1
  | none => 0
def Follows (ws : List (N × N × Int)) (a b : Int × N) : Prop := ∃ w ∈ ws, w.1 = a.2 ∧ w.2.1 = b.2 ∧ w.2.2 ≤ b.1 - a.1
/-- names, ways: each release but the first follows the one before -/
def Legal (ns : List N) (ws : List (N × N × Int)) : List (Int × N) → Prop
  | [] => True
  | [a] => a.2 ∈ ns
  | a :: b :: r => a.2 ∈ ns ∧ Follows ws a b ∧ Legal ns ws (b :: r)
/-- the work that is released from s on, ahead of e -/
def work (ks : List (N × Int × Int)) (L : List (Int × N)) (s e : Int) : Int := ((L.filter fun r => decide (s ≤ r.1 ∧ r.1 < e)).map fun r => costOf ks r.2).sum
section
variable {T : Tk N}
abbrev names (T : Tk N) : List N := T.kinds.map (·.1)
abbrev LegalT (T : Tk N) : List (Int × N) → Prop := Legal (names T) T.ways
theorem find_idx {α : Type} (p : α → Bool) : ∀ l : List α, l.find? p = l[l.findIdx p]?
  | [] => rfl
  | a :: l => by
    rw [List.findIdx_cons]
    cases h : p a with
    | true => simp [List.find?_cons, h]
    | false => simp [List.find?_cons, h, find_idx p l]
theorem costOf_at (W : Wf T) {n : N} (h : n ∈ names T) : ∃ k, T.kinds[kn T.kinds n]? = some k ∧ costOf T.kinds n = k.2.1 ∧ k.1 = n := by
  obtain ⟨k, h1, h2, h3⟩ := kn_get h
  refine ⟨k, h1, ?_, h2⟩
  unfold costOf
  have e : T.kinds.find? (fun k => decide (k.1 = n)) = some k := by
    rw [find_idx]
    exact h1
  rw [e]
theorem Legal.tail {ns : List N} {ws : List (N × N × Int)} {a : Int × N} : ∀ {r : List (Int × N)}, Legal ns ws (a :: r) → Legal ns ws r
  | [], _ => True.intro
  | _ :: _, h => h.2.2
theorem Legal.head {ns : List N} {ws : List (N × N × Int)} {a : Int × N} : ∀ {r : List (Int × N)}, Legal ns ws (a :: r) → a.2 ∈ ns
  | [], h => h
  | _ :: _, h => h.1
theorem legal_times (hd : ∀ w ∈ T.ways, 1 ≤ w.2.2) : ∀ {r : List (Int × N)} {a : Int × N}, LegalT T (a :: r) → ∀ x ∈ r, a.1 ≤ x.1
  | [], a, _, x, hx => by cases hx
  | b :: r, a, h, x, hx => by
    obtain ⟨w, hw, _, _, h3⟩ := h.2.1
    have d := hd w hw
    rcases List.mem_cons.mp hx with rfl | hx
    · omega
    · have := legal_times hd h.2.2 x hx
      omega
theorem work_cons (ks : List (N × Int × Int)) (a : Int × N) (L : List (Int × N)) (s e : Int) : work ks (a :: L) s e = (if s ≤ a.1 ∧ a.1 < e then costOf ks a.2 else 0) + work ks L s e := by
  unfold work
  by_cases h : s ≤ a.1 ∧ a.1 < e
  · rw [List.filter_cons_of_pos (by simpa using h), if_pos h, List.map_cons, List.sum_cons]
  · rw [List.filter_cons_of_neg (by simpa using h), if_neg h, Int.zero_add]
theorem work_zero (ks : List (N × Int × Int)) : ∀ (L : List (Int × N)) (s e : Int), (∀ x ∈ L, e ≤ x.1) → work ks L s e = 0
  | [], _, _, _ => rfl
  | a :: L, s, e, h => by
    rw [work_cons, work_zero ks L s e fun x hx => h x (List.mem_cons_of_mem _ hx), if_neg]
    · rfl
    · have := h a List.mem_cons_self
      omega
theorem chain_bound (W : Wf T) (s : Int) : ∀ (r : List (Int × N)) (a : Int × N) (n : Nat), LegalT T (a :: r) → work T.kinds (a :: r) s (a.1 + n) ≤ num T (kn T.kinds a.2) n
  | r, a, 0, h => by
    rw [work_zero]
    · exact num_nonneg W _ _
    · intro x hx
      rcases List.mem_cons.mp hx with rfl | hx
      · simp
      · have := legal_times W.dist h x hx
        simpa using this
  | [], a, n + 1, h => by
    obtain ⟨k, hk, hc, _⟩ := costOf_at W (n := a.2) h
    rw [work_cons, num_eq T hk, own_pos W hk (by omega), hc]
    have h1 := best_nonneg (T := T) k.1 (n + 1)
    have h2 := W.cost k (List.mem_of_getElem? hk)
    show _ + 0 ≤ _
    split <;> omega
  | b :: r, a, n + 1, h => by
    obtain ⟨k, hk, hc, he⟩ := costOf_at W (n := a.2) h.1
    obtain ⟨w, hw, w1, w2, w3⟩ := h.2.1
    have h1 := best_nonneg (T := T) k.1 (n + 1)
    have h2 := W.cost k (List.mem_of_getElem? hk)
    have hd := W.dist w hw
    obtain ⟨d, hdd⟩ : ∃ d : Nat, w.2.2 = (d : Int) := ⟨w.2.2.toNat, by omega⟩
    rw [work_cons, num_eq T hk, own_pos W hk (by omega), hc]
    have key : work T.kinds (b :: r) s (a.1 + (n + 1 : Nat)) ≤ bestC T k.1 (n + 1 : Nat) (rowsN T (n + 1)) := by
      by_cases hb : b.1 ≤ a.1 + (n + 1 : Nat)
      · obtain ⟨m, hm⟩ : ∃ m : Nat, a.1 + (n + 1 : Nat) = b.1 + m := ⟨(a.1 + (n + 1 : Nat) - b.1).toNat, by omega⟩
        rw [hm]
        have ih := chain_bound W s r b m h.2.2
        have g := best_ge W hw hdd (n := n + 1) (by omega)
        rw [w1, w2, ← he] at g
        have mo := num_mono W (kn T.kinds b.2) (n := m) (m := n + 1 - d) (by omega)
        omega
      · rw [work_zero]
        · exact h1
        · intro x hx
          rcases List.mem_cons.mp hx with rfl | hx
          · omega
          · have := legal_times W.dist h.2.2 x hx
            omega
    split <;> omega
/-- no window has more work than the demand of its length -/
theorem window (W : Wf T) {s e : Int} (hse : s ≤ e) : ∀ (L : List (Int × N)), LegalT T L → work T.kinds L s e ≤ demand T (e - s).toNat
  | [], _ => demand_nonneg W _
  | a :: r, h => by
    by_cases ha : a.1 < s
    · rw [work_cons, if_neg (by omega)]
      have := window W hse r h.tail
      omega
    · by_cases hb : a.1 ≤ e
      · obtain ⟨n, hn⟩ : ∃ n : Nat, e = a.1 + n := ⟨(e - a.1).toNat, by omega⟩
        have c := chain_bound W s r a n h
        rw [← hn] at c
        obtain ⟨k, hk, _, _⟩ := costOf_at W (n := a.2) h.head
        have hl := (List.getElem?_eq_some_iff.mp hk).1
        have m1 := num_mono W (kn T.kinds a.2) (n := n) (m := (e - s).toNat) (by omega)
        have m2 := demand_ge (T := T) (e - s).toNat hl
        omega
      · rw [work_zero]
        · exact demand_nonneg W _
        · intro x hx
          rcases List.mem_cons.mp hx with rfl | hx
          · omega
          · have := legal_times W.dist h x hx
            omega
end

/-! ### coming round -/
/-- g is above all differences of the rows m, m - 1, .., m - cnt + 1 and those a step q below -/
def GrowsBy (T : Tk N) (m cnt q : Nat) (g : Int) : Prop := 0 ≤ g ∧ ∀ below, below < cnt → ∀ i, i < T.kinds.length → num T i (m - below) - num T i (m - below - q) ≤ g
section
variable {T : Tk N}
theorem num_round (W : Wf T) {m cnt q : Nat} {g : Int} (hc : ∀ w ∈ T.ways, w.2.2 ≤ (cnt : Int)) (hm : cnt + q + 1 ≤ m) (G : GrowsBy T m cnt q g) : ∀ n, m + 1 ≤ n + cnt → ∀ i, num T i n ≤ num T i (n - q) + g := by
  intro n
  induction n using Nat.strongRecOn with
  | ind n ih =>
    intro hn i
    cases hk : T.kinds[i]? with
    | none => rw [num_out hk, num_out hk]; have := G.1; omega
    | some k =>
      have hi := (List.getElem?_eq_some_iff.mp hk).1
      by_cases hnm : n ≤ m
      · have q1 := G.2 (m - n) (by omega) i hi
        rw [show m - (m - n) = n by omega] at q1
        omega
      · rw [num_eq T hk, num_eq T hk, own_pos W hk (by omega), own_pos W hk (by omega)]
        have g0 := G.1
        rcases best_or W k.1 n with e | ⟨w, hw, e1, d, hd, d1, d2, e⟩
        · have := best_nonneg (T := T) k.1 (n - q)
          omega
        · have hcw := hc w hw
          have a := ih (n - d) (by omega) (by omega) (kn T.kinds w.2.1)
          have b := best_ge W hw hd (n := n - q) (by omega)
          rw [e1, show n - q - d = n - d - q by omega] at b
          omega
theorem demand_round (W : Wf T) {m cnt q : Nat} {g : Int} (hc : ∀ w ∈ T.ways, w.2.2 ≤ (cnt : Int)) (hm : cnt + q + 1 ≤ m) (G : GrowsBy T m cnt q g) (n : Nat) (hn : m + 1 ≤ n + cnt) : demand T n ≤ demand T (n - q) + g := by
  obtain ⟨i, hi, e⟩ := demand_at W n
  have a := num_round W hc hm G n hn i
  have b := demand_ge (T := T) (n - q) hi
  omega
end
def total (Ts : List (Tk N)) (n : Nat) : Int := (Ts.map fun T => demand T n).sum
theorem total_round {m cnt q : Nat} {n : Nat} (hm : cnt + q + 1 ≤ m) (hn : m + 1 ≤ n + cnt) : ∀ {Ts : List (Tk N)} {gs : List Int}, (∀ T ∈ Ts, Wf T ∧ ∀ w ∈ T.ways, w.2.2 ≤ (cnt : Int)) →
    gs.length = Ts.length → (∀ (i : Nat) (T : Tk N) (g : Int), Ts[i]? = some T → gs[i]? = some g → GrowsBy T m cnt q g) → total Ts n ≤ total Ts (n - q) + gs.sum
  | [], [], _, _, _ => by show (0 : Int) ≤ 0 + 0; omega
  | [], _ :: _, _, h, _ => by cases h
  | _ :: _, [], _, h, _ => by cases h
  | T :: Ts, g :: gs, h, hl, hg => by
    have h0 := h T List.mem_cons_self
    have a := demand_round h0.1 h0.2 hm (hg 0 T g rfl rfl) n hn
    have b := total_round (n := n) hm hn (Ts := Ts) (gs := gs) (fun T' hT => h T' (List.mem_cons_of_mem _ hT)) (Nat.succ.inj hl) (fun i T' g' e1 e2 => hg (i + 1) T' g' e1 e2)
    unfold total at b ⊢
    rw [List.map_cons, List.sum_cons, List.map_cons, List.sum_cons, List.sum_cons]
    omega

/-! ### supply -/
def sof (tb : List Int) (n : Nat) : Int := ((n / tb.length : Nat) : Int) * tb.sum + (tb.take (n % tb.length)).sum
def cap (tb : List Int) (n : Nat) : Int := tb.getD (n % tb.length) 0
theorem sum_take_succ : ∀ (l : List Int) (j : Nat), j < l.length → (l.take (j + 1)).sum = (l.take j).sum + l.getD j 0
  | [], j, h => by cases h
  | a :: l, 0, _ => by simp
  | a :: l, j + 1, h => by
    have ih := sum_take_succ l j (Nat.lt_of_succ_lt_succ h)
    show (a :: l.take (j + 1)).sum = (a :: l.take j).sum + l.getD j 0
    rw [List.sum_cons, List.sum_cons, ih]
    omega
section
variable {tb : List Int}
theorem sof_zero : sof tb 0 = 0 := by
  unfold sof
  simp
theorem sof_succ (h : 0 < tb.length) (n : Nat) : sof tb (n + 1) = sof tb n + cap tb n := by
  unfold sof cap
  have hlt := Nat.mod_lt n h
  have e := Nat.div_add_mod n tb.length
  by_cases hb : n % tb.length + 1 < tb.length
  · have h1 : (n + 1) % tb.length = n % tb.length + 1 := by
      rw [Nat.add_mod, Nat.mod_eq_of_lt (a := 1) (by omega), Nat.mod_eq_of_lt hb]
    have h2 : (n + 1) / tb.length = n / tb.length := by
      have e1 := Nat.div_add_mod (n + 1) tb.length
      rw [h1] at e1
      have e3 : tb.length * ((n + 1) / tb.length) = tb.length * (n / tb.length) := by omega
      exact Nat.eq_of_mul_eq_mul_left h e3
    rw [h1, h2, sum_take_succ _ _ hlt]
    omega
  · have hP : n % tb.length + 1 = tb.length := by omega
    have e3 : n + 1 = tb.length * (n / tb.length + 1) := by rw [Nat.mul_add, Nat.mul_one]; omega
    have h1 : (n + 1) % tb.length = 0 := by rw [e3]; exact Nat.mul_mod_right _ _
    have h2 : (n + 1) / tb.length = n / tb.length + 1 := by rw [e3]; exact Nat.mul_div_cancel_left _ h
    have h3 := sum_take_succ tb _ hlt
    rw [hP, List.take_length] at h3
    rw [h1, h2, h3, List.take_zero, List.sum_nil]
    have e4 : ((n / tb.length + 1 : Nat) : Int) * ((tb.take (n % tb.length)).sum + tb.getD (n % tb.length) 0) = ((n / tb.length : Nat) : Int) * ((tb.take (n % tb.length)).sum + tb.getD (n % tb.length) 0) + ((tb.take (n % tb.length)).sum + tb.getD (n % tb.length) 0) := by
      rw [Int.natCast_add, Int.add_mul, Int.natCast_one, Int.one_mul]
    rw [e4]
    omega
theorem sof_add (h : 0 < tb.length) (n : Nat) : sof tb (n + tb.length) = sof tb n + tb.sum := by
  unfold sof
  rw [Nat.add_mod_right, Nat.add_div_right _ h, Int.natCast_add, Int.add_mul, Int.natCast_one, Int.one_mul]
  omega
theorem sof_mul (h : 0 < tb.length) (n : Nat) : ∀ k : Nat, sof tb (n + tb.length * k) = sof tb n + (k : Int) * tb.sum
  | 0 => by simp
  | k + 1 => by
    rw [Nat.mul_add, Nat.mul_one, ← Nat.add_assoc, sof_add h, sof_mul h n k, Int.natCast_add, Int.add_mul, Int.natCast_one, Int.one_mul]
    omega
/-- what holds of all windows up to h holds of all -/
theorem excess_all (hP : 0 < tb.length) {D : Nat → Int} {h k : Nat} {M : Int} (hk : 1 ≤ k) (hh : tb.length * k + tb.length + 1 ≤ h)
    (round : ∀ n, h + 2 ≤ n + tb.length → D n ≤ D (n - tb.length * k) + (k : Int) * tb.sum) (hM : ∀ s e, s < e → e ≤ h → D (e - s) - (sof tb e - sof tb s) ≤ M) :
    ∀ e s, s < e → D (e - s) - (sof tb e - sof tb s) ≤ M := by
  intro e
  have hPk : tb.length ≤ tb.length * k := Nat.le_mul_of_pos_right _ hk
  induction e using Nat.strongRecOn with
  | ind e ih =>
    intro s hs
    by_cases he : e ≤ h
    · exact hM s e hs he
    · by_cases hsP : tb.length ≤ s
      · have a := ih (e - tb.length) (by omega) (s - tb.length) (by omega)
        have e1 := sof_add hP (e - tb.length)
        have e2 := sof_add hP (s - tb.length)
        rw [show e - tb.length + tb.length = e by omega] at e1
        rw [show s - tb.length + tb.length = s by omega] at e2
        rw [show e - tb.length - (s - tb.length) = e - s by omega] at a
        omega
      · have r := round (e - s) (by omega)
        have a := ih (e - tb.length * k) (by omega) s (by omega)
        have e1 := sof_mul hP (e - tb.length * k) k
        rw [show e - tb.length * k + tb.length * k = e by omega] at e1
        rw [show e - tb.length * k - s = e - s - tb.length * k by omega] at a
        omega
end

/-! ### the walk through the slots -/
def walk (f : Nat → Int) (tb : List Int) : Nat → Int
  | 0 => 0
  | t + 1 => max 0 (walk f tb t + f t - cap tb t)
def upto (f : Nat → Int) : Nat → Int
  | 0 => 0
  | t + 1 => upto f t + f t
section
variable {tb : List Int} {f : Nat → Int}
theorem walk_nonneg : ∀ t, 0 ≤ walk f tb t
  | 0 => Int.le_refl _
  | t + 1 => by show 0 ≤ max 0 _; omega
theorem walk_or (hP : 0 < tb.length) : ∀ t, walk f tb t = 0 ∨ ∃ s, s < t ∧ walk f tb t = (upto f t - upto f s) - (sof tb t - sof tb s)
  | 0 => .inl rfl
  | t + 1 => by
    have e := sof_succ hP t
    have w : walk f tb (t + 1) = max 0 (walk f tb t + f t - cap tb t) := rfl
    have u : upto f (t + 1) = upto f t + f t := rfl
    by_cases hz : walk f tb t + f t - cap tb t ≤ 0
    · exact .inl (by omega)
    · refine .inr ?_
      rcases walk_or hP t with h | ⟨s, hs, h⟩
      · exact ⟨t, Nat.lt_succ_self t, by omega⟩
      · exact ⟨s, by omega, by omega⟩
theorem walk_ge (hP : 0 < tb.length) : ∀ t s, s ≤ t → (upto f t - upto f s) - (sof tb t - sof tb s) ≤ walk f tb t
  | 0, s, h => by
    have e : s = 0 := by omega
    subst e
    show _ ≤ (0 : Int)
    omega
  | t + 1, s, h => by
    have w : walk f tb (t + 1) = max 0 (walk f tb t + f t - cap tb t) := rfl
    have u : upto f (t + 1) = upto f t + f t := rfl
    have e := sof_succ hP t
    by_cases hs : s = t + 1
    · subst hs
      omega
    · have a := walk_ge hP t s (by omega)
      omega
end
def slotWork (ks : List (N × Int × Int)) (L : List (Int × N)) (u : Int) : Int := (L.map fun r => if r.1 = u then costOf ks r.2 else 0).sum
/-- kinds and releases of each task -/
def slotAll (KL : List (List (N × Int × Int) × List (Int × N))) (u : Nat) : Int := (KL.map fun p => slotWork p.1 p.2 (u : Int)).sum
def workAll (KL : List (List (N × Int × Int) × List (Int × N))) (s e : Int) : Int := (KL.map fun p => work p.1 p.2 s e).sum
theorem work_succ (ks : List (N × Int × Int)) {s e : Int} (h : s ≤ e) : ∀ L : List (Int × N), work ks L s (e + 1) = work ks L s e + slotWork ks L e
  | [] => rfl
  | a :: L => by
    rw [work_cons, work_cons, work_succ ks h L]
    have e1 : slotWork ks (a :: L) e = (if a.1 = e then costOf ks a.2 else 0) + slotWork ks L e := by
      unfold slotWork
      rw [List.map_cons, List.sum_cons]
    rw [e1]
    by_cases h1 : a.1 = e
    · rw [if_pos h1, if_pos (by omega), if_neg (by omega)]
      omega
    · rw [if_neg h1]
      by_cases h2 : s ≤ a.1 ∧ a.1 < e
      · rw [if_pos h2, if_pos (by omega)]
        omega
      · rw [if_neg h2, if_neg (by omega)]
        omega
theorem workAll_succ {s e : Int} (h : s ≤ e) (e' : Nat) (he : e = (e' : Int)) : ∀ KL : List (List (N × Int × Int) × List (Int × N)), workAll KL s (e + 1) = workAll KL s e + slotAll KL e'
  | [] => rfl
  | p :: KL => by
    have ih := workAll_succ h e' he KL
    have q := work_succ p.1 h p.2
    unfold workAll slotAll at ih ⊢
    rw [List.map_cons, List.sum_cons, List.map_cons, List.sum_cons, List.map_cons, List.sum_cons, ih, q, he]
    omega
theorem workAll_same (s : Int) : ∀ KL : List (List (N × Int × Int) × List (Int × N)), workAll KL s s = 0
  | [] => rfl
  | p :: KL => by
    have ih := workAll_same s KL
    have q : work p.1 p.2 s s = 0 := by
      have : (p.2.filter fun r => decide (s ≤ r.1 ∧ r.1 < s)) = [] := by
        rw [List.filter_eq_nil_iff]
        intro x _ hx
        have := of_decide_eq_true hx
        omega
      unfold work
      rw [this] <;> rfl
    unfold workAll at ih ⊢
    rw [List.map_cons, List.sum_cons, ih, q] <;> rfl
theorem upto_work (KL : List (List (N × Int × Int) × List (Int × N))) (s : Nat) : ∀ k : Nat, upto (slotAll KL) (s + k) - upto (slotAll KL) s = workAll KL s ((s + k : Nat) : Int)
  | 0 => by
    rw [Nat.add_zero, workAll_same]
    omega
  | k + 1 => by
    have ih := upto_work KL s k
    have u : upto (slotAll KL) (s + (k + 1)) = upto (slotAll KL) (s + k) + slotAll KL (s + k) := rfl
    have q := workAll_succ (s := (s : Int)) (e := ((s + k : Nat) : Int)) (by omega) (s + k) rfl KL
    have e : ((s + (k + 1) : Nat) : Int) = ((s + k : Nat) : Int) + 1 := by omega
    rw [e, q]
    omega
/-- released work of legal releases is within the demands -/
theorem workAll_le {s e : Nat} (hse : s ≤ e) : ∀ {Ts : List (Tk N)} {Ls : List (List (Int × N))}, (∀ T ∈ Ts, Wf T) → Ls.length = Ts.length → (∀ (i : Nat) (T : Tk N) (L : List (Int × N)), Ts[i]? = some T → Ls[i]? = some L → LegalT T L) →
    workAll ((Ts.map (·.kinds)).zip Ls) s e ≤ total Ts (e - s)
  | [], [], _, _, _ => Int.le_refl _
  | [], _ :: _, _, h, _ => by cases h
  | _ :: _, [], _, h, _ => by cases h
  | T :: Ts, L :: Ls, h, hl, hL => by
    have a := window (h T List.mem_cons_self) (s := (s : Int)) (e := (e : Int)) (by omega) L (hL 0 T L rfl rfl)
    have b := workAll_le hse (Ts := Ts) (Ls := Ls) (fun T' hT => h T' (List.mem_cons_of_mem _ hT)) (Nat.succ.inj hl) (fun i T' L' e1 e2 => hL (i + 1) T' L' e1 e2)
    rw [show ((e : Int) - (s : Int)).toNat = e - s by omega] at a
    unfold workAll total at b ⊢
    rw [List.map_cons, List.zip_cons_cons, List.map_cons, List.sum_cons, List.map_cons, List.sum_cons]
    dsimp only at a b ⊢
    omega

/-! ### the heaviest releases -/
section
variable {T : Tk N}
/-- the best step behind a kind: none, or a way -/
def StepOk (T : Tk N) (name : N) (rest : Nat) (best : Int) : Option (Nat × Int) → Prop
  | none => best = 0
  | some (j, d) => 0 < best ∧ ∃ w ∈ T.ways, w.1 = name ∧ kn T.kinds w.2.1 = j ∧ w.2.2 = d ∧ d ≤ (rest : Int) ∧ num T j ((rest : Int) - d).toNat = best
def sumCost (ks : List (N × Int × Int)) (L : List (Int × N)) : Int := (L.map fun r => costOf ks r.2).sum
structure Heavy (T : Tk N) (n number time : Nat) (L : List (Int × N)) : Prop where
  last : ∃ pre k, L = pre ++ [((time : Int), k.1)] ∧ T.kinds[number]? = some k ∧ sumCost T.kinds pre + num T number (n - time) = demand T n
  lt : time < n
  legal : LegalT T L
  all : ∀ x ∈ L, 0 ≤ x.1 ∧ x.1 < (n : Int)
structure HeavyDone (T : Tk N) (n : Nat) (L : List (Int × N)) : Prop where
  legal : LegalT T L
  all : ∀ x ∈ L, 0 ≤ x.1 ∧ x.1 < (n : Int)
  sum : sumCost T.kinds L = demand T n
theorem legal_snoc {ns : List N} {ws : List (N × N × Int)} {a b : Int × N} : ∀ {pre : List (Int × N)}, Legal ns ws (pre ++ [a]) → Follows ws a b → b.2 ∈ ns → Legal ns ws (pre ++ [a] ++ [b])
  | [], h, f, hb => ⟨h, f, hb⟩
  | [x], h, f, hb => ⟨h.1, h.2.1, h.2.2, f, hb⟩
  | x :: y :: pre, h, f, hb => ⟨h.1, h.2.1, legal_snoc (pre := y :: pre) h.2.2 f hb⟩
theorem sumCost_snoc (ks : List (N × Int × Int)) (L : List (Int × N)) (x : Int × N) : sumCost ks (L ++ [x]) = sumCost ks L + costOf ks x.2 := by
  unfold sumCost
  rw [List.map_append, List.sum_append]
  simp
theorem kind_name {number : Nat} {k : N × Int × Int} (h : T.kinds[number]? = some k) : k.1 ∈ names T := List.mem_map.mpr ⟨k, List.mem_of_getElem? h, rfl⟩
theorem cost_kind (W : Wf T) {number : Nat} {k : N × Int × Int} (h : T.kinds[number]? = some k) : costOf T.kinds k.1 = k.2.1 := by
  obtain ⟨k', h1, h2, _⟩ := costOf_at W (kind_name h)
  rw [kn_at W.nd h, h] at h1
  cases h1
  exact h2
theorem heavy_start (W : Wf T) {n i : Nat} (hn : 1 ≤ n) {k : N × Int × Int} (hk : T.kinds[i]? = some k) (hi : num T i n = demand T n) : Heavy T n i 0 [(0, k.1)] where
  last := ⟨[], k, rfl, hk, by
    show 0 + num T i (n - 0) = _
    rw [Nat.sub_zero, hi]
    omega⟩
  lt := by omega
  legal := kind_name hk
  all := fun x hx => by
    cases List.mem_singleton.mp hx
    show (0 : Int) ≤ 0 ∧ (0 : Int) < n
    omega
theorem heavy_turn (W : Wf T) {n number time : Nat} {L : List (Int × N)} (h : Heavy T n number time L) {k : N × Int × Int} (hk : T.kinds[number]? = some k) {j : Nat} {d : Int}
    (hs : StepOk T k.1 (n - time) (bestC T k.1 ((n - time : Nat) : Int) (rowsN T (n - time))) (some (j, d))) : ∃ k', T.kinds[j]? = some k' ∧ 1 ≤ d ∧ Heavy T n j (time + d.toNat) (L ++ [((time : Int) + d, k'.1)]) := by
  obtain ⟨pre, k0, rfl, hk0, hsum⟩ := h.last
  rw [hk] at hk0
  cases hk0
  obtain ⟨hb, w, hw, w1, w2, w3, hd, hv⟩ := hs
  obtain ⟨k', g1, g2, g3⟩ := kn_get (W.tgt w hw)
  rw [w2] at g1 g3
  have d1 := W.dist w hw
  have hlt := h.lt
  have htime : ((time + d.toNat : Nat) : Int) = (time : Int) + d := by omega
  have hz : 1 ≤ n - (time + d.toNat) := by
    by_cases hz : n - (time + d.toNat) = 0
    · have e : (((n - time : Nat) : Int) - d).toNat = 0 := by omega
      rw [e, num_zero W] at hv
      omega
    · omega
  refine ⟨k', g1, by omega, ?_, by omega, ?_, ?_⟩
  · refine ⟨pre ++ [((time : Int), k.1)], k', by rw [htime], g1, ?_⟩
    rw [sumCost_snoc, cost_kind W hk]
    rw [num_eq T hk, own_pos W hk (by omega), ← hv] at hsum
    have e : (((n - time : Nat) : Int) - d).toNat = n - (time + d.toNat) := by omega
    rw [e] at hsum
    omega
  · exact legal_snoc h.legal ⟨w, hw, w1, by rw [g2], by show w.2.2 ≤ (time : Int) + d - (time : Int); omega⟩ (kind_name g1)
  · intro x hx
    rcases List.mem_append.mp hx with hx | hx
    · exact h.all x hx
    · cases List.mem_singleton.mp hx
      show 0 ≤ (time : Int) + d ∧ (time : Int) + d < n
      omega
theorem heavy_end (W : Wf T) {n number time : Nat} {L : List (Int × N)} (h : Heavy T n number time L) {k : N × Int × Int} (hk : T.kinds[number]? = some k)
    (hs : StepOk T k.1 (n - time) (bestC T k.1 ((n - time : Nat) : Int) (rowsN T (n - time))) none) : HeavyDone T n L := by
  obtain ⟨pre, k0, rfl, hk0, hsum⟩ := h.last
  rw [hk] at hk0
  cases hk0
  have hlt := h.lt
  refine ⟨h.legal, h.all, ?_⟩
  rw [sumCost_snoc, cost_kind W hk]
  have hs0 : bestC T k.1 ((n - time : Nat) : Int) (rowsN T (n - time)) = 0 := hs
  rw [num_eq T hk, own_pos W hk (by omega), hs0] at hsum
  omega
/-- moved by a start -/
def moved (s : Int) (L : List (Int × N)) : List (Int × N) := L.map fun r => (r.1 + s, r.2)
theorem legal_moved {ns : List N} {ws : List (N × N × Int)} (s : Int) : ∀ {L : List (Int × N)}, Legal ns ws L → Legal ns ws (moved s L)
  | [], _ => True.intro
  | [_], h => h
  | a :: b :: r, h => by
    refine ⟨h.1, ?_, legal_moved s h.2.2⟩
    obtain ⟨w, hw, w1, w2, w3⟩ := h.2.1
    exact ⟨w, hw, w1, w2, by show w.2.2 ≤ b.1 + s - (a.1 + s); omega⟩
theorem work_moved (ks : List (N × Int × Int)) {s n : Int} : ∀ {L : List (Int × N)}, (∀ x ∈ L, 0 ≤ x.1 ∧ x.1 < n) → work ks (moved s L) s (s + n) = sumCost ks L
  | [], _ => rfl
  | a :: L, h => by
    have ih := work_moved ks (s := s) (n := n) (L := L) fun x hx => h x (List.mem_cons_of_mem _ hx)
    have ha := h a List.mem_cons_self
    show work ks ((a.1 + s, a.2) :: moved s L) s (s + n) = _
    rw [work_cons, ih, if_pos (by show s ≤ a.1 + s ∧ a.1 + s < s + n; omega)]
    unfold sumCost
    rw [List.map_cons, List.sum_cons]
end
theorem workAll_heavy {s n : Nat} : ∀ {Ts : List (Tk N)} {Ls : List (List (Int × N))}, Ls.length = Ts.length → (∀ (i : Nat) (T : Tk N) (L : List (Int × N)), Ts[i]? = some T → Ls[i]? = some L → ∃ L0, HeavyDone T n L0 ∧ L = moved (s : Int) L0) →
    workAll ((Ts.map (·.kinds)).zip Ls) s ((s + n : Nat) : Int) = total Ts n
  | [], [], _, _ => rfl
  | [], _ :: _, h, _ => by cases h
  | _ :: _, [], h, _ => by cases h
  | T :: Ts, L :: Ls, hl, hL => by
    obtain ⟨L0, hd, rfl⟩ := hL 0 T L rfl rfl
    have a := work_moved T.kinds (s := (s : Int)) (n := (n : Int)) hd.all
    have b := workAll_heavy (s := s) (n := n) (Ts := Ts) (Ls := Ls) (Nat.succ.inj hl) (fun i T' L' e1 e2 => hL (i + 1) T' L' e1 e2)
    have c := hd.sum
    rw [show ((s : Int) + (n : Int)) = ((s + n : Nat) : Int) by omega] at a
    unfold workAll total at b ⊢
    rw [List.map_cons, List.zip_cons_cons, List.map_cons, List.sum_cons, List.map_cons, List.sum_cons]
    dsimp only at a b ⊢
    omega

/-! ### for the walks -/
section
variable {T : Tk N}
def bstep (T : Tk N) (n : Nat) (best : Int) (w : N × Int) : Int := if w.2 ≤ (n : Int) then max best (num T (kn T.kinds w.1) ((n : Int) - w.2).toNat) else best
theorem foldl_same {α β : Type} (f g : β → α → β) : ∀ (l : List α) (b : β), (∀ a ∈ l, ∀ b, f b a = g b a) → l.foldl f b = l.foldl g b
  | [], _, _ => rfl
  | a :: l, b, h => by
    rw [List.foldl_cons, List.foldl_cons, h a List.mem_cons_self, foldl_same f g l _ fun x hx => h x (List.mem_cons_of_mem _ hx)]
theorem bestC_num (hd : ∀ w ∈ T.ways, 1 ≤ w.2.2) (nm : N) (n : Nat) : bestC T nm n (rowsN T n) = (waysFrom T nm).foldl (bstep T n) 0 := by
  unfold bestC
  refine foldl_same _ _ _ _ fun w hw b => ?_
  obtain ⟨w', h1, _, rfl⟩ := mem_from.mp hw
  have hd' := hd w' h1
  unfold bstep
  by_cases h : w'.2.2 ≤ (n : Int)
  · rw [if_pos h, if_pos h, look_rows T (by dsimp only; omega)]
  · rw [if_neg h, if_neg h]
theorem row_get {i : Nat} (n : Nat) (h : i < T.kinds.length) : (rowOf T n)[i]? = some (num T i n) := by
  unfold num
  have q : i < (rowOf T n).length := by rw [rowOf_len]; exact h
  rw [List.getD_eq_getElem?_getD, List.getElem?_eq_getElem q] <;> rfl
theorem rowsN_range (T : Tk N) : ∀ n, rowsN T n = (List.range n).map (rowOf T)
  | 0 => rfl
  | n + 1 => by
    rw [List.range_succ, List.map_append, ← rowsN_range T n] <;> rfl
theorem waysFrom_len (nm : N) : (waysFrom T nm).length ≤ T.ways.length := by
  unfold waysFrom
  rw [List.length_map]
  exact List.length_filter_le _ _
theorem mem_from_t {nm : N} {x : N × Int} (ht : ∀ w ∈ T.ways, w.2.1 ∈ names T) (h : x ∈ waysFrom T nm) : x.1 ∈ names T := by
  obtain ⟨w, h1, _, rfl⟩ := mem_from.mp h
  exact ht w h1
theorem mem_from_d {nm : N} {x : N × Int} (hd : ∀ w ∈ T.ways, 1 ≤ w.2.2) (h : x ∈ waysFrom T nm) : 1 ≤ x.2 := by
  obtain ⟨w, h1, _, rfl⟩ := mem_from.mp h
  exact hd w h1
theorem kn_lt {ks : List (N × Int × Int)} {n : N} (h : n ∈ ks.map (·.1)) : kn ks n < ks.length := by
  obtain ⟨_, _, _, h3⟩ := kn_get h
  exact h3
theorem kn_not {ks : List (N × Int × Int)} {n : N} {i : Nat} {k : N × Int × Int} (h : ks[i]? = some k) (e : k.1 = n) : kn ks n ≤ i := by
  refine Nat.le_of_not_lt fun hlt => ?_
  obtain ⟨hi, he⟩ := List.getElem?_eq_some_iff.mp h
  have q := List.not_of_lt_findIdx hlt
  rw [he] at q
  exact absurd e (of_decide_eq_false q)
theorem kn_next {ks : List (N × Int × Int)} {n : N} (hm : n ∈ ks.map (·.1)) {i : Nat} {k : N × Int × Int} (h : ks[i]? = some k) (e : ¬ k.1 = n) (hi : i ≤ kn ks n) : i + 1 ≤ kn ks n := by
  rcases Nat.lt_or_eq_of_le hi with q | q
  · exact q
  · obtain ⟨k', h1, h2, _⟩ := kn_get hm
    rw [← q, h] at h1
    cases h1
    exact absurd h2 e
theorem total_snoc (Ts : List (Tk N)) (T : Tk N) (n : Nat) : total (Ts ++ [T]) n = total Ts n + demand T n := by
  unfold total
  rw [List.map_append, List.sum_append]
  simp
end
end NLM
set_option Elab.async false
set_option linter.all false
set_option maxRecDepth 100000
set_option maxHeartbeats 4000000
namespace NL
open PySem PySem.Spec PyProof.Rows L2
section
variable {X : Cx}
/-! ### sum of a tuple -/
theorem iter_intTup {prog : Program} {w : World} {A : Around} {E : Value → Shared → Prop} {s : Shared} {l : Addr} {xs : Array (Int × Tok)} {Q : Value → Shared → Prop} (hl : s.heap.IsTuple l (intItems xs))
    (h : ∀ s₂ : Shared, s₂ = { s with heap := s.heap.push { cls := .type "tuple_iterator", data := .fields #[.ref l, .int 0 0] } } →
      (s₂.heap.IsTupleIter s.heap.objs.size l 0 ∧ s₂.heap.IsTuple l (intItems xs)) → (∀ b ∈ [s.heap.objs.size, l], b < s₂.heap.objs.size) → l ≠ s.heap.objs.size → Q (.ref s.heap.objs.size) s₂) :
    wpAny (model prog w) A (pyIter (.ref l)) Q E s := by
  have hlt : l < s.heap.objs.size := by obtain ⟨_, e, _⟩ := hl; exact Heap.lt_size e
  refine wpAny_pyIter_tuple hl (h _ rfl ⟨⟨_, Heap.get?_push_size _ rfl, rfl, rfl⟩, hl.push _⟩ (fun b hb => ?_) (Nat.ne_of_lt hlt))
  show b < (s.heap.push _).objs.size
  rw [Heap.size_push]
  rcases List.mem_cons.mp hb with rfl | hb
  · exact Nat.lt_succ_self _
  · rcases List.mem_cons.mp hb with rfl | hb
    · exact Nat.lt_succ_of_lt hlt
    · cases hb
theorem old_keptT {s : Shared} {l : Addr} {h' : Heap} (hk : ∀ b o, b ∉ [s.heap.objs.size] → (s.heap.push { cls := .type "tuple_iterator", data := .fields #[.ref l, .int 0 0] }).get? b = some o → h'.get? b = some o) :
    ∀ b o, s.heap.get? b = some o → h'.get? b = some o := fun b o e =>
  hk b o (fun hb => absurd (Heap.lt_size e) ((List.mem_singleton.mp hb) ▸ Nat.lt_irrefl _)) (Heap.get?_push_of_some _ e)
theorem sum_rawT {prog : Program} {w : World} {A : Around} {E : Value → Shared → Prop} {s : Shared} {l : Addr} {its : List Value} {ns : List Int} {Q : Value → Shared → Prop} (hh : A.handled = none) (hl : s.heap.IsTuple l its.toArray) (hi : IntsAre its ns)
    (h : ∀ h' tk t', (∀ b o, s.heap.get? b = some o → h'.get? b = some o) → Q (.int ns.sum t') { s with heap := h', toks := tk }) : wpAny (model prog w) A (call (.builtin "sum") [.ref l]) Q E s := by
  obtain ⟨xs, e⟩ := hi.allInts.items
  have hn : numsOf (intItems xs).toList = ns := by rw [← e]; exact hi.numsOf
  rw [nums_intItems] at hn
  rw [e] at hl
  refine call_sum_walkG (iter_intTup hl fun s₂ e st hfp hlI => ?_)
  subst e
  refine ⟨_, _, _, _, _, _, numAt xs, rfl, Walks.tuple (A := A.in1) hh _ l hlI (intItems xs), st, hfp, (fun _ _ => intItems_at), fun h' tk t' hk => ?_⟩
  have := h h' tk t' (old_keptT hk)
  have e2 : preSum (numAt xs) (intItems xs).size = ns.sum := by
    have e3 : (intItems xs).size = xs.size := by simp [intItems]
    rw [e3, preSum_eq, List.take_of_length_le (by simp), hn]
  rw [e2]
  exact this
def rSumT (K : PySem.W.Frag) : List V → Hp → VK → Prop := fun vs H Q => ∃ (a : Addr) (ns : List Int), vs = [V.ref a] ∧ SqT K H a (ns.map V.int) ∧ Q (.int ns.sum) H
theorem cr_sumT (hc : X.calm = true) : CallR X (.builtin "sum") (rSumT X.K) := by
  intro pins s σ H vs us Q I r h
  obtain ⟨a, ns, rfl, hs, q⟩ := h
  obtain ⟨its, rv, hl, _⟩ := I.tuple hs
  rw [Vals.ref1 r]
  exact sum_rawT (I.ok.hd hc) (show s.heap.IsTuple a its.toArray from hl) rv.ints fun h' tk t' hk => ⟨.int _, H, I.kept hk, ⟨_, rfl⟩, q⟩
/-! ### text * int -/
def rMulS : R2 := fun x y H Q => ∃ (z : Str) (n : Int), x = .str z ∧ y = .int n ∧ 0 ≤ n ∧ n ≤ 1000 ∧ z.length ≤ 1000 ∧ Q (.str (Txt.mul z n)) H
theorem op_mulS : OpR X (binaryOp .Mult) rMulS := by
  intro pins s σ H x y v u Q I rx ry h
  obtain ⟨z, n, rfl, rfl, h0, h1, hz, q⟩ := h
  obtain ⟨t, rfl⟩ := rx
  obtain ⟨t', rfl⟩ := ry
  have hm : (z.length : Int) ≤ (2 ^ 63 - 1) / 1000 := by
    have e : ((2 : Int) ^ 63 - 1) / 1000 = 9223372036854775 := by decide
    rw [e]
    omega
  refine SB.mul ⟨?_, fun hn _ => ?_, fun hn _ => ?_⟩ fun t' k => ⟨.str _, H, I.tok k, ⟨_, rfl⟩, q⟩
  · rw [decide_eq_false (by omega), decide_eq_false (by omega)]
    rfl
  · have a : ((2 : Int) ^ 63 - 1) / n ≥ ((2 : Int) ^ 63 - 1) / 1000 := by
      have e : ((2 : Int) ^ 63 - 1) / 1000 = 9223372036854775 := by decide
      rw [e]
      have hn0 : 0 < n := by omega
      refine (Int.le_ediv_iff_mul_le hn0).mpr ?_
      have : (9223372036854775 : Int) * n ≤ 9223372036854775 * 1000 := Int.mul_le_mul_of_nonneg_left h1 (by decide)
      omega
    omega
  · have b : z.length * n.toNat ≤ 1000 * 1000 := Nat.mul_le_mul hz (by omega)
    unfold Builtin.Str.tooLong
    simp
    have : sizeLine = 16777216 := sizeLine_eq
    omega
/-! ### max(l, default = d), ints -/
theorem maxOf_int : ∀ (y : Int) (ys : List Int), PySem.W.maxOf y ys ∈ y :: ys ∧ ∀ z ∈ y :: ys, z ≤ PySem.W.maxOf y ys
  | y, [] => ⟨List.mem_cons_self, fun z hz => by
      cases List.mem_singleton.mp hz
      exact Int.le_refl _⟩
  | y, a :: ys => by
    have e : PySem.W.maxOf y (a :: ys) = PySem.W.maxOf (if y < a then a else y) ys := by
      unfold PySem.W.maxOf
      rw [List.foldl_cons]
      by_cases h : y < a
      · rw [if_pos h, if_pos (show PySem.W.DatumOrd.lt y a = true from decide_eq_true h)]
      · rw [if_neg h, if_neg (show ¬ PySem.W.DatumOrd.lt y a = true from fun z => h (of_decide_eq_true z))]
    obtain ⟨h1, h2⟩ := maxOf_int (if y < a then a else y) ys
    rw [e]
    refine ⟨?_, fun z hz => ?_⟩
    · rcases List.mem_cons.mp h1 with h1 | h1
      · rw [h1]
        split
        · exact List.mem_cons_of_mem _ List.mem_cons_self
        · exact List.mem_cons_self
      · exact List.mem_cons_of_mem _ (List.mem_cons_of_mem _ h1)
    · have h3 := h2 _ List.mem_cons_self
      have h4 : y ≤ (if y < a then a else y) ∧ a ≤ (if y < a then a else y) := by split <;> omega
      rcases List.mem_cons.mp hz with rfl | hz
      · exact Int.le_trans h4.1 h3
      · rcases List.mem_cons.mp hz with rfl | hz
        · exact Int.le_trans h4.2 h3
        · exact h2 z (List.mem_cons_of_mem _ hz)
def rMaxDef (K : PySem.W.Frag) : List V → List V → Hp → VK → Prop := fun vs zs H Q => ∃ (a : Addr) (ns : List Int) (d : Int), vs = [V.ref a] ∧ zs = [V.int d] ∧ SqL K H a (ns.map V.int) ∧
  (ns = [] → Q (.int d) H) ∧ ∀ m, m ∈ ns → (∀ y, y ∈ ns → y ≤ m) → Q (.int m) H
theorem cr_maxDef {k : Nat} (hc : X.calm = true) (hr : Room k X.A) : CallRK X (.builtin "max") [Str.ofString "default"] (rMaxDef X.K) := by
  intro pins s σ H vs zs us ws Q I r rz h
  obtain ⟨a, ns, d, rfl, rfl, hs, q0, q⟩ := h
  obtain ⟨its, rv, hl, _⟩ := I.list hs
  rw [Vals.ref1 r]
  obtain ⟨w1, rfl, t1, rfl⟩ := vals1 rz
  show wpAny _ _ (call (.builtin "max") [.ref a] [(Str.ofString "default", .int d t1)]) _ _ _
  have hu := hr.units
  have hall : PySem.W.HoldAll s.heap its ns := PySem.W.HoldAll.of_ints rv.ints
  refine PySem.W.max_list_datum_default (α := Int) (I.ok.hd hc) hl.isList hall (by have e : PySem.W.Datum.depth Int = 0 := rfl; rw [e]; omega) (fun e h' tk hk => ⟨.int _, H, I.kept hk, ⟨_, rfl⟩, q0 e⟩) fun y ys i v h' tk e hv hh hk => ?_
  obtain ⟨t, rfl⟩ := PySem.W.int_of_holds hh
  refine ⟨.int _, H, I.kept hk, ⟨_, rfl⟩, q _ ?_ ?_⟩
  · rw [e]
    exact (maxOf_int y ys).1
  · rw [e]
    exact (maxOf_int y ys).2
/-! ### l[i] -/
theorem pget_list : PGet X (fun x y H Q => ∃ (p : Addr) (xs : List V) (j : Nat) (v : V), x = .ref p ∧ y = .int (j : Int) ∧ SqL X.K H p xs ∧ xs[j]? = some v ∧ Q v H) := by
  intro pins s σ H o i ov iv Q I ro ri h
  obtain ⟨p, xs, j, z, rfl, rfl, hq, he, q⟩ := h
  cases ro
  obtain ⟨t, rfl⟩ := ri
  obtain ⟨its, r, pl, hz⟩ := I.list hq
  obtain ⟨w, ew, rw'⟩ := r.get he
  have hj := (List.getElem?_eq_some_iff.mp he).1
  have hn := line63
  have fin : EP X pins σ Q w s := ⟨z, H, I, rw', q⟩
  refine wpAny_getItem_list (x := w) pl.isList (by omega) (by omega) ?_ fin
  simpa using ew
/-! ### enumerate(t), t a tuple -/
set_option maxHeartbeats 4000000 in
theorem meets_enumerate_newT (l : Addr) (items : Array Value) :
    Meets (Builtin.«enumerate.__new__» ⟨[.type "enumerate", .ref l], []⟩) (fun _ R s => s.heap.IsTuple l items ∧
      R (.ok (.ret (.ref (s.heap.push { cls := .type "tuple_iterator", data := .fields #[.ref l, .int 0 0] }).objs.size)))
        { s with heap := (s.heap.push { cls := .type "tuple_iterator", data := .fields #[.ref l, .int 0 0] }).push { cls := .type "enumerate", data := .fields #[.none, .bool false, .ref s.heap.objs.size, rawInt 0, .none, .none] } }) :=
  .of_wp fun prog w A R s h => by
    obtain ⟨hp, g, d, tk, os⟩ := s; obtain ⟨hl, h⟩ := h
    have hsub := sub_enumerate
    have hL : Heap.IsTuple (Shared.heap ⟨hp, g, d, tk, os⟩) l items := hl
    obtain ⟨⟨c, dct, dt, sl⟩, ho, hc, n, hd⟩ := id hl
    replace hc : c = .type "tuple" := hc
    replace hd : dt = .seq items n := hd
    subst hc hd
    wp_walk using AutoSeq1.wpAny_loadPart' ho
    refine wpAny_stack_any fun st => wpAny_pure ?_
    split
    · rename_i c _ _ _ _ _
      cases (c == Value.type "enumerate")
      · wp_walk using AutoSeq1.wpAny_loadPart' ho, wpAny_pyIter_tuple hL
        exact ⟨_, rfl, h⟩
      · wp_walk using AutoSeq1.wpAny_loadPart' ho, wpAny_pyIter_tuple hL
        exact ⟨_, rfl, h⟩
    · wp_walk using AutoSeq1.wpAny_loadPart' ho, wpAny_pyIter_tuple hL
      exact ⟨_, rfl, h⟩
theorem call_enumerate_tup {prog : Program} {w : World} {A : Around} {E : Value → Shared → Prop} {s : Shared} {l : Addr} {items : Array Value} {Q : Value → Shared → Prop} (hL : s.heap.IsTuple l items)
    (h : ∀ h', IsEnum h' (s.heap.objs.size + 1) s.heap.objs.size 0 .none → h'.IsTupleIter s.heap.objs.size l 0 → h'.objs.size = s.heap.objs.size + 2 →
      (∀ b o, s.heap.get? b = some o → h'.get? b = some o) → Q (.ref (s.heap.objs.size + 1)) { s with heap := h' }) :
    wpAny (model prog w) A (call (.type "enumerate") [.ref l]) Q E s := by
  refine callType_new F.called_enumerate (by decide) (F.typeCall_enumerate_1 _) (F.newCall_enumerate_1 _) (fun obj => F.args_object_init_2 obj _) F.entry_enumerate_new
    (meets_enumerate_newT l items) ⟨hL, ?_⟩
  have hz : (s.heap.push { cls := .type "tuple_iterator", data := .fields #[.ref l, .int 0 0] }).objs.size = s.heap.objs.size + 1 := Heap.size_push ..
  show _ ∧ _
  rw [hz]
  have he : IsEnum ((s.heap.push { cls := .type "tuple_iterator", data := .fields #[.ref l, .int 0 0] }).push
      { cls := .type "enumerate", data := .fields #[.none, .bool false, .ref s.heap.objs.size, rawInt 0, .none, .none] }) (s.heap.objs.size + 1) s.heap.objs.size 0 .none := by
    have := Heap.get?_push_size (s.heap.push { cls := .type "tuple_iterator", data := .fields #[.ref l, .int 0 0] })
      (o := { cls := .type "enumerate", data := .fields #[.none, .bool false, .ref s.heap.objs.size, rawInt 0, .none, .none] }) rfl
    rw [hz] at this; exact this
  refine ⟨⟨_, he, rfl⟩, h _ he ⟨_, Heap.get?_push_of_some _ (Heap.get?_push_size _ rfl), rfl, rfl⟩ (by rw [Heap.size_push, hz]) fun b o x => Heap.get?_push_of_some _ (Heap.get?_push_of_some _ x)⟩
/-- the tuple at a, each item in a new pair -/
def ItT (K : PySem.W.Frag) (a : Addr) : It :=
  ⟨fun i H => ∃ (xs : List V) (x : V), SqT K H a xs ∧ xs[i]? = some x, fun i H v H' => ∃ T x, v = .ref T ∧ H T = none ∧ H' = upd H T (.tup [.int (i : Nat), x]) ∧ ∀ xs, SqT K H a xs → xs[i]? = some x, fun i H => ∃ xs : List V, SqT K H a xs ∧ xs.length ≤ i⟩
theorem turn_enumT {P : Program} {w : World} {K : PySem.W.Frag} {elts : List Expr} {kk : Nat} {tpos : Pos} (a e it : Addr) :
    Turn P w K (.Tuple elts kk tpos) (ItT K a) [e, it] e (fun i h => (∃ old, IsEnum h e it ((i : Nat) : Int) old) ∧ h.IsTupleIter it a i ∧ e ≠ it ∧ a ≠ it ∧ a ≠ e) where
  mem := by simp
  obj := fun i h st b hb => by
    obtain ⟨⟨old, he⟩, ⟨o, ho, hc, hd⟩, _⟩ := st
    have e' : b = e ∨ b = it := by simpa using hb
    rcases e' with z | z
    · rw [z]; exact ⟨_, he, fun v q => nomatch q⟩
    · rw [z]; exact ⟨o, ho, fun v q => by rw [hd] at q; cases q⟩
  keep := fun i h h' st k => let ⟨⟨old, he⟩, hi, hne⟩ := st; ⟨⟨old, k e (by simp) _ he⟩, hi.at fun o q => k it (by simp) o q, hne⟩
  item := by
    intro X hP hw hK hc i pins s σ H E I hf st hg
    subst hP hw hK
    obtain ⟨⟨old, he⟩, hit, hne, ha1, ha2⟩ := st
    obtain ⟨xs, x, hq, hx⟩ := hg
    obtain ⟨its, rv, p, hz⟩ := I.tuple hq
    obtain ⟨u, hu, ru⟩ := rv.get hx
    have p' : s.heap.IsTuple a its.toArray := p
    have hlt : i < its.toArray.size := by
      have := (List.getElem?_eq_some_iff.mp hu).1
      simpa using this
    have hel : e < s.heap.objs.size := Heap.lt_size he
    have hil : it < s.heap.objs.size := by obtain ⟨_, q, _⟩ := hit; exact Heap.lt_size q
    refine wpAny_pyNext_enum_itemD (Draws.tuple (A := X.A.in1) (I.ok.hd hc) it a ha1 its.toArray) he ⟨hit, p'⟩ hlt hne (by simp; exact ⟨hne, fun q => ha2 q.symm⟩) fun u' h' tk hu' ho hit' hT hsz hk => ?_
    have eu : u' = u := by
      have h1 : its.toArray[i]? = some u := by simpa using hu
      rw [h1] at hu'
      exact (Option.some.inj hu').symm
    subst eu
    refine ⟨_, rfl, wpAny_letOwnedTupleGo_enum (s := { s with heap := h', toks := tk + 1 }) ho fun h'' he' sb => ?_⟩
    have hT2 : h''.get? s.heap.objs.size = some { cls := .type "tuple", data := .seq #[.int i tk, u'] } := (sb.2 _ (Nat.ne_of_gt hel)).trans hT
    have new : ObjOk X.prog X.w (upd H s.heap.objs.size (.tup [.int (i : Nat), x])) h'' s.heap.objs.size (.tup [.int (i : Nat), x]) :=
      ⟨by show 2 ≤ sizeLine; decide, [.int i tk, u'], .cons ⟨_, rfl⟩ (.cons ru .nil), ⟨_, hT2, rfl, _, rfl⟩⟩
    have I1 : Inv X pins σ (upd H s.heap.objs.size (.tup [.int (i : Nat), x])) { s with heap := h'', toks := tk + 1 } :=
      I.turnedNew (ch := [e, it]) (fun b ob hb q => (sb.2 b (fun z => hb (by simp [z]))).trans (hk b ob (fun z => hb (by simp [z])) (fun z => hb (by simp [z])) q)) hf (Nat.le_refl _) new
    refine ⟨.ref s.heap.objs.size, _, I1, rfl, ⟨_, x, rfl, I.hok.fresh (Nat.le_refl _), rfl, fun ys hy => by rw [I.tuple_inj hy hq]; exact hx⟩, ⟨⟨u', ?_⟩, hit'.1.at fun o q => (sb.2 it (Ne.symm hne)).trans q, hne, ha1, ha2⟩, fun b hb => ?_⟩
    · have e1 : ((i + 1 : Nat) : Int) = (i : Int) + 1 := by omega
      rw [e1]; exact he'
    · have hb' : b < s.heap.objs.size := by
        have e' : b = e ∨ b = it := by simpa using hb
        rcases e' with z | z
        · rw [z]; exact hel
        · rw [z]; exact hil
      rw [upd_ne (Nat.ne_of_lt hb')]
      exact (hf b hb).1
  done := by
    intro X hP hw hK hc i pins s σ H E I hf st hg
    subst hP hw hK
    obtain ⟨⟨old, he⟩, hit, hne, ha1, ha2⟩ := st
    obtain ⟨xs, hq, hx⟩ := hg
    obtain ⟨its, rv, p, hz⟩ := I.tuple hq
    have p' : s.heap.IsTuple a its.toArray := p
    obtain ⟨f0, f1, f2, f3, f4, f5⟩ := hf it (by simp)
    have hl := rv.length
    have hT : s.TypeIs (.ref e) "enumerate" := ⟨_, he, rfl⟩
    unfold pyNext
    refine wpAny_bind (wpAny_attempt (wpAny_callSpecial?_slot (name := Str.ofString "__next__") hT F.slot_enumerate_next
      (wpAny_call_entry F.slot_enumerate_next hT F.entry_enumerate_next ?_ (F.args_enumerate_next_1 _))))
    show wpAny _ _ (field (.ref e) 2 >>= _) _ _ _
    refine wpAny_bind (wpAny_field he rfl (x := .ref it) rfl ?_)
    refine wpAny_bind (wpAny_nextOf_tuple_end (A := X.A.in1) (I.ok.hd hc) hit p' (by simp; omega) fun h' x he' hx' => ?_)
    obtain ⟨o, ho, hc⟩ := hx'
    refine wpAny_bind (wpAny_isInstance (T := "StopIteration") (b := true) ⟨o, ho, hc⟩ isSubtype_stop ?_)
    exact wpAny_pure ⟨rfl, I.turned (t' := s.toks) (fun b o hb q => he' b o hb q) f0 f1 f3 f4 f5⟩
  self := fun A i s Q E st h => let ⟨⟨_, he⟩, _⟩ := st; wpAny_pyIter_enum he h
def iEnumT (K : PySem.W.Frag) (ta : TA) : TI := fun σ H R => ta σ H fun vs H1 => ∃ a xs, vs = [.ref a] ∧ SqT K H1 a xs ∧ R (ItT K a) H1
theorem pi_enumT {X : Cx} {e : Expr} {ta : TA} {p pos tpos : Pos} {elts : List Expr} {kk : Nat} (hg : Gl X "enumerate") (hm : X.mg "enumerate" = none) (ha : PA X [e] ta) (hs : starEach [e] X.env = [(false, eval e X.env)] := by rfl) :
    PI X (.Tuple elts kk tpos) (.Call (.Name "enumerate" p) [e] [] pos) (iEnumT X.K ta) := by
  refine ⟨fun pins s σ H R I h => ?_⟩
  refine Call_ (ld_blt I hg hm boot_enumerate (PyProof.Rows.callWith_type1 (thn (ha.run pos pins s σ H _ I h) fun us s1 ⟨vs, H1, I1, r1, q1⟩ => ?_) hs rfl))
  obtain ⟨a, xs, ex, hq, q⟩ := q1
  subst ex
  cases r1 with
  | cons r rr =>
    cases rr
    cases r
    obtain ⟨its, rv, p', hz⟩ := I1.tuple hq
    have pT : s1.heap.IsTuple a its.toArray := p'
    have hal : a < s1.heap.objs.size := by obtain ⟨_, q, _⟩ := pT; exact Heap.lt_size q
    refine call_enumerate_tup pT fun h' he hit hsz hk => wpAny_pyIter_enum he ?_
    have I2 : Inv X pins σ H1 { s1 with heap := h' } := I1.kept (t' := s1.toks) hk
    refine ⟨s1.heap.objs.size + 1, [s1.heap.objs.size + 1, s1.heap.objs.size], _, _, H1, rfl, I2, turn_enumT a (s1.heap.objs.size + 1) s1.heap.objs.size, ⟨⟨.none, he⟩, hit, Nat.succ_ne_self _, Nat.ne_of_lt hal, Nat.ne_of_lt (Nat.lt_succ_of_lt hal)⟩, fun b hb => ?_, q⟩
    have e' : b = s1.heap.objs.size + 1 ∨ b = s1.heap.objs.size := by simpa using hb
    have hle : s1.heap.objs.size ≤ b := by
      rcases e' with z | z
      · rw [z]; exact Nat.le_add_right _ _
      · rw [z]; exact Nat.le_refl _
    exact I1.fpOk hle (I1.hok.fresh hle)
theorem walk_enumT {K : PySem.W.Frag} {a : Addr} {xs : List V} : Walk (ItT K a) xs.length (fun H => SqT K H a xs) (YPair (fun i => some (.int (i : Nat))) (fun i => xs[i]?)) := by
  refine ⟨fun i _ hi q => ⟨xs, xs[i], q, by simp [hi]⟩, fun _ q => ⟨xs, q, Nat.le_refl _⟩, fun i H v H' _ q y => ?_⟩
  obtain ⟨T, x, h1, h2, h3, h4⟩ := y
  exact ⟨T, .int (i : Nat), x, h1, h2, h3, rfl, h4 xs q⟩
/-! ### f(e, .., k = v, ..) where what is raised is wished for at the slots -/
section
variable {X : Cx} {CX : CXT} {k n : Nat} {f : Addr} {fd : FuncData} {ps ks : List Str} {sp : Sp} {E : L2.St → XK} {x : Str} {p pos : Pos} {e : Expr} {es : List Expr} {kws : List Keyword} {t tk : TA} {g : List Value → List Value → List Value} {gV : List V → List V → List V}
def tCallNS (n m : Nat) (sp : Sp) (gV : List V → List V → List V) (E : L2.St → XK) (t tk : TA) : TE := fun σ H Q => t σ H fun vs H1 => tk σ H1 fun zs H2 => vs.length = n ∧ zs.length = m ∧ sp (gV vs zs) H2 Q (E σ)
theorem run_fnNS {pins : List (Addr × Obj)} {σ : L2.St} {H : Hp} {s : Shared} {Q : VK} {us ws : List Value} {vs zs : List V} (F : FnOk X.prog X.w X.K X.mg X.base CX k f fd ps sp) (hr : Room k X.A) (hb : KBn X.K fd ps n ks g gV) (hx : PassesAt CX X σ (E σ))
    (I : Inv X pins σ H s) (r : Vals vs us) (rz : Vals zs ws) (l1 : vs.length = n) (l2 : zs.length = ks.length) (h : sp (gV vs zs) H Q (E σ)) : wpAny (model X.prog X.w) X.A (call (.ref f) us (ks.zip ws)) (EP X pins σ Q) X.xe s := by
  have r2 := hb.rel r rz
  refine wpAny_call (codeAny_mono (F.run X.A X.stack s H ⟨us, ks.zip ws⟩ (g us ws) (gV vs zs) Q (E σ) hr I.env0 (hb.to s us ws I.kIn (r.length.symm.trans l1) (rz.length.symm.trans l2)) r2 h) fun r s' hq => ?_)
  cases r with
  | error e => exact hx pins H s e s' I hq
  | ok fl =>
    cases fl with
    | ret u => exact I.after hq
    | next => exact False.elim hq
    | brk => exact False.elim hq
    | cont => exact False.elim hq
theorem pe_callNS (F : FnOk X.prog X.w X.K X.mg X.base CX k f fd ps sp) (hr : Room k X.A) (hg : Gl X x) (hm : X.mg x = some (.ref f)) (hk : PySem.W.keepIn X.K (.ref f) = true) (hb : KBn X.K fd ps n ks g gV) (hx : ∀ σ, PassesAt CX X σ (E σ))
    (ha : PA X (e :: es) t) (hkw : PK X kws tk) (hall : (backToKw pos (keywordEach kws X.env)).all (·.1.isSome) = true := by rfl) (hks : (backToKw pos (keywordEach kws X.env)).filterMap (·.1) = ks := by rfl)
    (hdb : (x == ("__debug__" : Str)) = false := by decide) (he : starEach (e :: es) X.env = (false, eval e X.env) :: starEach es X.env := by rfl)
    (hpl : ((backTo pos (starEach (e :: es) X.env)).any (·.1) || (backToKw pos (keywordEach kws X.env)).any (·.1.isNone)) = false := by rfl) :
    PE X (.Call (.Name x p) (e :: es) kws pos) (tCallNS n ks.length sp gV E t tk) := by
  refine ⟨fun pins s σ H Q I h => ?_⟩
  refine wpAny_Call_Name_kw (ld_glob I hg hm ?_ hdb)
  refine PySem.W.callWith_KW (h₀ := X.base) I.ok.mod.kin hk hall (thn (ha.run pos pins s σ H _ I h) fun us s1 ⟨vs, H1, I1, r, q⟩ => ?_) hpl he
  refine thn (hkw.run pos pins s1 σ H1 _ I1 q) fun ws s2 ⟨zs, H2, I2, rz, l1, l2, q2⟩ => ⟨I2.kIn, ?_⟩
  rw [hks]
  exact run_fnNS F hr hb (hx σ) I2 r rz l1 l2 q2
end
end
end NL
set_option Elab.async false
set_option linter.all false
set_option maxRecDepth 100000
set_option maxHeartbeats 4000000
namespace NL
open PySem PySem.W PySem.Calls PyProof.Rows PySem.HandSPX
def topS (i : Nat) : Stmt := PySem.Challenge.pw_neverlate_k71_whole_waiting.main.body.getD i (.Pass ⟨0, 0, 0, 0⟩)
abbrev sUndecI : Stmt := L2.inClass (topS 15) 0
/-- what the written part says of Undecided, at C, of its __init__ at fI, closed over the cell cc, its code at cda -/
structure UnTxt (P : Program) (K : Frag) (mg : Str → Option Value) (C fI cc cda : Addr) : Prop where
  gC : mg "Undecided" = some (.ref C)
  noS : mg "super" = none
  cls : ∃ nm q N bs bm sn sub ab col dd k0 k1 k2 k3 k5, K.lookup C = some (excClassObj nm q C N bs bm true sn sub ab col dd k0 k1 k2 k3 k5 "ValueError.__new__") ∧ refsVE bm = true
  sa : findIn K (.ref C) "__setattr__" = some (some (.builtin "object.__setattr__"))
  ga : findIn K (.ref C) "__getattribute__" = some (some (.builtin "BaseException.__getattribute__"))
  gg : findIn K (.ref C) "__getattr__" = some none
  noN : findIn K (.ref C) "horizon" = some none
  iC : findIn K (.ref C) "__init__" = some (some (.ref fI))
  tC : typeIn K (.ref fI) = some (.type "function")
  kC : keepIn K (.ref C) = true
  exC : subIn K (.ref C) (.type "BaseException") = some true
  veC : subIn K (.ref C) (.type "ValueError") = some true
  tyC : typeIn K (.ref C) = some (.type "type")
  hdC : hasDictIn K C = true
  te : exmOne K (.ref C) (.ref C) = some true
  sup : ks_superIn K C C "__init__" = some (some (.builtin "ValueError.__init__"))
  opq : nsIn K cStatics "thirdparty.any" = some none
  sub : mroIn K C (.ref C) = some true
  fn : ∃ (oc : Value) (od : Option Addr) (kV doc pm : Value) (an : Option Addr) (ct : Value) (osl : Array (Option Value)),
    K.lookup fI = some ⟨oc, od, .func (ksFn "__init__" "Undecided.__init__" (L2.defArgs sUndecI) (L2.defBody sUndecI) (L2.defScope sUndecI) .none kV doc pm an (.ref cda) ct cc), osl⟩ ∧ codeIn K (.ref cda) "Undecided.__init__" = true
  code : ∃ (ccl : Value) (cdd : Option Addr) (vs : Array Value) (ccs : Array (Option Value)) (file : Str) (tf : Tok), K.lookup cda = some ⟨ccl, cdd, .fields vs, ccs⟩ ∧ vs[2]? = some (.str file tf) ∧ ((P.main.file : Str) == file) = true
  cell : ∃ (cl : Value) (cld : Option Addr) (csl : Array (Option Value)), K.lookup cc = some ⟨cl, cld, .cell (some (.ref C)), csl⟩
  top : (P.main.scope.names.lookup ("super" : Str)).isSome = false
theorem kept_but {K : Frag} {h h' : Heap} {x : Addr} (X : K.In h) (hx : K.lookup x = none) (k : ∀ b o, b ≠ x → h.get? b = some o → h'.get? b = some o) : K.In h' := fun a o e =>
  k a o (fun z => by rw [z, hx] at e; cases e) (X a o e)
section
variable {prog : Program} {w : World} {A : Around} {E : Value → Shared → Prop} {h : Heap} {g : Array GenState} {d : Drawn} {t : Nat} {os : OsState}
variable {nm q : Str} {C N : Addr} {bs bm : List Value} {hdct : Bool} {sn : List Str} {sub : List Value} {ab : Bool} {col : Option Bool} {dd : Option Addr} {k0 k1 k2 k3 k5 : Option Value}
/-- super().__init__(..) called -/
theorem call_bwV {u e t0 : Addr} {rest : List Value} {Q : Value → Shared → Prop}
    (hC : h.get? C = some (excClassObj nm q C N bs bm hdct sn sub ab col dd k0 k1 k2 k3 k5 "ValueError.__new__")) (he : h.get? e = some (excO C t0)) (hu : h.get? u = some (kxs_mw "ValueError.__init__" e)) (hrest : rest.length ≤ sizeLine)
    (hq : ∀ h' t1, (∀ b o, b ≠ e → h.get? b = some o → h'.get? b = some o) → h'.get? e = some (excO C t1) → Q .none ⟨h', g, d, t, os⟩) :
    wpAny (model prog w) A (call (.ref u) rest) Q E ⟨h, g, d, t, os⟩ := by
  refine wpAny_call (codeAny_of_tree ?_)
  show wpAny _ A.in1 (callAny (.ref u) ⟨rest, []⟩) _ _ _
  simp only [callAny]
  refine wpAny_bind (wpAny_load hu ?_)
  simp only [kxs_mw, show (Value.type "method-wrapper" == Value.type "method" || Value.type "method-wrapper" == Value.type "builtin_function_or_method" || Value.type "method-wrapper" == Value.type "method-wrapper") = true by decide, if_true]
  refine W.KFB.if_so (by decide) ?_
  refine wpAny_bind (ESX.check_bound F.excBase_ValueError hC he rfl ?_)
  refine wpAny_bind (wpAny_pure (wpAny_pure ?_))
  refine ⟨Code.quiet_builtin _ (by decide +kernel), codeAny_builtin F.excBase_ValueError.initEntry ?_⟩
  rw [Around.under_plainId F.excBase_ValueError.init.plain _]
  wp_walk
  refine hq _ h.objs.size (fun b o hb ho => ?_) ?_
  · rw [Heap.get?_update_other _ _ (Ne.symm hb)]
    exact Heap.get?_push_of_some _ ho
  · rw [Heap.get?_update_self _ (Heap.get?_push_of_some _ he) rfl]
    rfl
end
/-- what __init__ leaves of a fresh exception at x -/
structure InitEnd (h h' : Heap) (x C dx t1 : Addr) (v : Value) : Prop where
  keep : ∀ b o, b ≠ x → h.get? b = some o → h'.get? b = some o
  obj : h'.get? x = some { cls := .ref C, dict := some dx, data := .fields #[.ref t1, .none, .none, .none, .bool false, .none] }
  dbig : h.objs.size ≤ dx
  dne : dx ≠ x
  ns : h'.Ns1 dx (fun y => if y = "horizon" then some v else none)
/-- a made one -/
structure OwnMade (h h' : Heap) (e C d : Addr) (v : Value) : Prop where
  keep : ∀ b o, h.get? b = some o → h'.get? b = some o
  new : h.objs.size ≤ e
  obj : ∃ oe vs, h'.get? e = some oe ∧ oe.cls = .ref C ∧ oe.dict = some d ∧ oe.data = .fields vs ∧ vs[1]? = some .none
  dbig : h.objs.size ≤ d
  dne : d ≠ e
  ns : h'.Ns1 d (fun y => if y = "horizon" then some v else none)
section
variable {prog : Program} {w : World} {A : Around} {E : Value → Shared → Prop} {R : Result → Shared → Prop} {s : Shared} {K : Frag} {mg mb : Str → Option Value} {C fI cc cda : Addr}
theorem ldX {M : Model} {s : Shared} {env : Env} {m : Str → Option Value} {x : Str} {pos : Pos} {v : Value} {Q : Value → Shared → Prop} {A : Around} {E : Value → Shared → Prop} (hn : s.heap.Ns env.locals m) (hv : m x = some v) (h : Q v s)
    (hk : env.scope.kind = .function := by rfl) (hl : env.kindOf x = some .local := by rfl) (hd : (x == ("__debug__" : Str)) = false := by decide) :
    wpAny M A (eval (.Name x pos) env) Q E s := wpAny_Name (wpAny_loadName_local hk hl hn hv h) hd
theorem kxs_cw1 {M : Model} {pos : Pos} {e : PySem.Expr} {env : Env} {i : String} {u x : Addr} {Q : Value → Shared → Prop} (he : backTo pos (starEach [e] env) = [(false, eval e env)])
    (h : wpAny M A (eval e env) (fun v s1 => s1.heap.get? u = some (kxs_mw i x) ∧ wpAny M A (call (.ref u) [v]) Q E s1) E s) : wpAny M A (callWith pos (.ref u) [] (backTo pos (starEach [e] env)) []) Q E s := by
  rw [he]
  exact kxs_callWith (i := i) (x := x) rfl (evalArgs_plain (Calls.spliced_cons (wpAny_mono h (fun v s1 h1 => Calls.spliced_nil h1) fun _ _ z => z)))
theorem un_cells : ∀ x ∈ (L2.defScope sUndecI).names, x.2 ≠ .cell := by decide +kernel
theorem un_locs {x v : Value} : ∀ y ∈ ([("self", x), ("horizon", v)] : List (Str × Value)), (L2.defScope sUndecI).names.lookup y.1 = some .local := fun y hy => by
  rcases List.mem_cons.mp hy with rfl | hy
  · rfl
  · cases List.mem_singleton.mp hy
    rfl
theorem un_init (T : UnTxt prog K mg C fI cc cda) {x t0 : Addr} {v : Value} (X : K.In s.heap) (hg : s.heap.Ns mainGlobals mg) (hb : s.heap.Ns builtinsNs mb) (hbb : ∀ x : Str, x ≠ "__name__" → mb x = bootBuiltins x) (hlim : s.heap.NoLimit) (hx : s.heap.get? x = some (excO C t0)) (hnx : K.lookup x = none) (hroom : A.depth < recursionLimit)
    (hq : ∀ h' tk dx t1, InitEnd s.heap h' x C dx t1 v → R (.ok (.ret .none)) { s with heap := h', toks := tk }) :
    codeAny (model prog w) A (.call (.ref fI) ⟨[.ref x, v], []⟩) R s := by
  obtain ⟨oc, od, kV, doc, pm, an, ct, osl, ho, hcd⟩ := T.fn
  obtain ⟨ccl, cdd, vs, ccs, file, tf, hcode, hvs, hfile⟩ := T.code
  obtain ⟨cl, cld, csl, hcell⟩ := T.cell
  obtain ⟨nm, q, N, bs, bm, sn, sub, ab, col, dd, k0, k1, k2, k3, k5, hC, hbm⟩ := T.cls
  have hcl : clsIn K C = some { name := nm, bases := bs, mro := .ref C :: bm, ns := N, qualname := q, hasDict := true, slotNames := sn, subclasses := sub, abstract := ab, collection := col, hasDel := false } := by unfold clsIn; rw [hC] <;> rfl
  have hxC : x ≠ C := fun z => by rw [z, hC] at hnx; cases hnx
  refine ks_codeAny_call_defAt (fd := ksFn "__init__" "Undecided.__init__" (L2.defArgs sUndecI) (L2.defBody sUndecI) (L2.defScope sUndecI) .none kV doc pm an (.ref cda) ct cc) (body := L2.defBody sUndecI) (binds := [("self", .ref x), ("horizon", v)]) hroom (X _ _ ho) rfl hlim (codeRec_of X hcd) rfl
    (BindsTo.of_eq (by first | rfl | with_unfolding_all rfl)) un_cells un_locs (fun h₁ hns k => ?_) (by rfl) (by rfl) (by rfl)
  have X₁ : K.In h₁ := X.keeps k
  have hx₁ := k _ _ hx
  have hxL : s.heap.objs.size ≠ x := Nat.ne_of_gt (Heap.lt_size hx)
  show PySem.wpAt _ _ _ (execs (_ :: _ :: _) _) _ _ _
  refine ks_wpAt_execs_cons (ks_wpAt_Expr_any (ks_wpAt_MethodCall ?_))
  refine ks_wpAt_super_base (by rfl) (by rfl) (by decide) rfl (X₁ _ _ ho) rfl (by rfl) rfl (X₁ _ _ hcode) rfl hvs hfile T.top ?_
  refine ks_loadName_global (by rfl) (by rfl) (loadGlobal_builtin (hg.keeps k) T.noS (hb.keeps k) ((hbb _ (by decide +kernel)).trans (by first | rfl | kernel_rfl)) ⟨rfl, ?_⟩)
  refine wpAny_loadName_free (by rfl) (by rfl) (by rfl) ⟨_, X₁ _ _ hcell, rfl⟩ ?_
  refine wpAny_loadName_local (by rfl) (by rfl) hns (by rfl) ?_
  refine ks_wpAny_isType_cls (X₁ _ _ hC) rfl ⟨rfl, ?_⟩
  refine ks_wpAny_call_super (X₁ _ _ hC) rfl hx₁ rfl (fun c e => by cases e) (looks_mroIn X₁ T.sub) (fun h₂ e2 k2 => ?_)
  have X₂ : K.In h₂ := X₁.keeps k2
  have hx₂ := k2 _ _ hx₁
  have I₂ : InstAt h₂ x (excO C t0) C none := ⟨hx₂, rfl, rfl, trivial⟩
  have hI : Looks (model prog w) h₂ (isInstance (.ref x) (.type "ValueError")) true := I₂.type.andThen (looks_subIn X₂ T.veC)
  have hsup := T.sup
  unfold ks_superIn at hsup
  rw [hcl] at hsup
  refine kxs_getMethod kxs_ValueError e2 (looks_opaque X₂ T.opq) (l₀ := .ref C :: bm) (fun A Q E s k q => wpAny_bind ((looks_clsIn X₂ hcl) A _ E s k (wpAny_pure q))) rfl X₂ hsup hI hxC (by decide) ?_
  refine kxs_cw1 (i := "ValueError.__init__") (x := x) (by rfl) (Calls.Constant_str ⟨Heap.get?_push_size _ rfl, ?_⟩)
  have k3 : ∀ b o, h₂.get? b = some o → (h₂.push (kxs_mw "ValueError.__init__" x)).get? b = some o := fun b o e => Heap.get?_push_of_some _ e
  refine call_bwV (k3 _ _ (X₂ _ _ hC)) (k3 _ _ hx₂) (Heap.get?_push_size _ rfl) (by show 1 ≤ sizeLine; rw [sizeLine_eq]; decide) (fun h₃ t1 k4 hx₃ => ?_)
  show PySem.wpAt _ _ _ (execs (_ :: []) _) _ _ _
  refine wpAt_of_wpAny ?_
  have X₃ : K.In h₃ := kept_but (X₂.keeps k3) hnx k4
  have hns3 : h₃.Ns s.heap.objs.size _ := ((hns.keeps k2).keeps k3).at fun o q => k4 _ o hxL q
  refine wpAny_execs_cons (plainObj_wpAny_Assign_Attribute ?_)
  refine ldX (v := v) hns3 (by rfl) (ldX (v := .ref x) hns3 (by rfl) ?_ (by rfl) (by rfl)) (by rfl) (by rfl)
  refine set_plain X₃ (ox := excO C t1) (od := none) ⟨hx₃, rfl, rfl, trivial⟩ T.sa ?_
  refine exc_osa X₃ hx₃ hcl (show refsVE (.ref C :: bm) = true from hbm) rfl T.noN (fun h₄ tk₄ dx k₅ dn dne hx₄ hn₄ => ?_)
  show wpAny _ _ (execs _ _) _ _ _
  refine wpAny_execs_nil (hq h₄ _ dx _ ⟨fun b o hb e => k₅ b o hb (k4 b o hb (k3 b o (k2 b o (k b o e)))), hx₄, ?_, dne, hn₄⟩)
  exact Nat.le_of_lt (Nat.lt_of_lt_of_le hns3.lt dn)
theorem one_size (v : Value) : [v].length ≤ sizeLine := by
  rw [sizeLine_eq]
  exact (by decide : 1 ≤ 16777216)
theorem un_made (T : UnTxt prog K mg C fI cc cda) {v : Value} (X : K.In s.heap) (hg : s.heap.Ns mainGlobals mg) (hb : s.heap.Ns builtinsNs mb) (hbb : ∀ x : Str, x ≠ "__name__" → mb x = bootBuiltins x) (hlim : s.heap.NoLimit) (hroom : A.depth + 1 < recursionLimit)
    (hq : ∀ h' tk e d, OwnMade s.heap h' e C d v → R (.ok (.ret (.ref e))) { s with heap := h', toks := tk }) :
    codeAny (model prog w) A (.call (.ref C) ⟨[v], []⟩) R s := by
  obtain ⟨nm, q, N, bs, bm, sn, sub, ab, col, dd, k0, k1, k2, k3, k5, hC, hbm⟩ := T.cls
  obtain ⟨hp, g, dr, tk, os⟩ := s
  have k : ∀ b o, hp.get? b = some o → ((hp.push (kdv_tup [v])).push (excO C hp.objs.size)).get? b = some o := fun b o e => Heap.get?_push_of_some _ (Heap.get?_push_of_some _ e)
  have hget : ((hp.push (kdv_tup [v])).push (excO C hp.objs.size)).get? (hp.objs.size + 1) = some (excO C hp.objs.size) := by heap_get
  have hnx : K.lookup (hp.objs.size + 1) = none := by
    cases e : K.lookup (hp.objs.size + 1) with
    | none => rfl
    | some o =>
      have z : hp.get? (hp.objs.size + 1) = some o := X _ _ e
      exact absurd (Nat.lt_of_succ_lt (Heap.lt_size z)) (Nat.lt_irrefl _)
  refine call_own F.excBase_ValueError (fun X => refsVE_contains X bm hbm) (X _ _ hC) (looks_findIn X T.iC) (fun self => bind_fn X self T.tC) (one_size v) ?_
  refine un_init (s := ⟨(hp.push (kdv_tup [v])).push (excO C hp.objs.size), g, dr, tk, os⟩) T (X.keeps k) (hg.keeps k) (hb.keeps k) hbb (hlim.keeps k) hget hnx ?_ fun h' tk' dx t1 ⟨k', hx, dn, dne, hns⟩ => ?_
  · show A.depth + 1 < recursionLimit
    exact hroom
  · have old : ∀ b o, hp.get? b = some o → h'.get? b = some o := fun b o e => k' b o (Nat.ne_of_lt (Nat.lt_succ_of_lt (Heap.lt_size e))) (k b o e)
    have z : hp.objs.size + 1 + 1 ≤ dx := by
      first
        | (simpa only [Heap.size_push] using dn)
        | exact dn
        | (have q := dn; rw [Heap.size_push, Heap.size_push] at q; exact q)
    exact ⟨rfl, hq h' tk' (hp.objs.size + 1) dx ⟨old, Nat.le_succ _, ⟨_, _, hx, rfl, rfl, rfl, rfl⟩, Nat.le_trans (Nat.le_trans (Nat.le_succ _) (Nat.le_succ _)) z, dne, hns⟩⟩
end
end NL
namespace NL
open PySem PySem.Spec PyProof.Rows L2
theorem relO_h {v : V} {v' : Value} (r : RelV v v') (f : Str) : RelO (List.lookup f [(("horizon" : Str), v)]) (if f = "horizon" then some v' else none) := by
  by_cases hw : f = "horizon"
  · subst hw
    rw [if_pos rfl]
    have q : List.lookup ("horizon" : Str) [(("horizon" : Str), v)] = some v := by simp [List.lookup]
    rw [q]
    exact r
  · rw [if_neg hw]
    have qw : (f == ("horizon" : Str)) = false := by simpa using hw
    have q2 : List.lookup f [(("horizon" : Str), v)] = none := by simp [List.lookup, qw]
    rw [q2]
    trivial
section
variable {X : Cx} {C fI cc cda : Addr}
/-- Undecided(e) -/
def tMkUn (C : Addr) (ta : TA) : L2.St → Hp → XK → Prop := fun σ H Q => ta σ H fun vs H1 => ∃ v, vs = [v] ∧ ∀ d, H1 d = none → Q (.ref C) (some d) (upd H1 d (.xd [(("horizon" : Str), v)]))
theorem pmk_un {a : PySem.Expr} {ta : TA} {p pos : Pos} {k : Nat} (T : UnTxt X.prog X.K X.mg C fI cc cda) (hr : Room k X.A) (ha : PA X [a] ta) (hg : Gl X "Undecided" := by rfl)
    (he : starEach (a :: []) X.env = (false, eval a X.env) :: starEach [] X.env := by rfl) (hpl : (backTo pos (starEach [] X.env)).any (·.1) = false := by rfl) :
    PMk X (.Call (.Name "Undecided" p) [a] [] pos) (tMkUn C ta) := by
  intro pins s σ H Q I h
  refine wpAny_Call_Name_kw (ld_glob I hg T.gC ?_)
  refine PySem.W.callWith_K (h₀ := X.base) I.ok.mod.kin T.kC (thn (ha.run pos pins s σ H _ I h) fun us s1 hh => ?_) he hpl
  obtain ⟨vs, H1, I1, r1, v, ev, q1⟩ := hh
  subst ev
  refine ⟨I1.kIn, ?_⟩
  cases r1 with
  | cons rv rn =>
    rename_i v' us'
    cases rn
    show wpAny _ _ (call (.ref C) [v']) _ _ _
    have hlim := I1.nolimit
    obtain ⟨mb, hb1, hb2⟩ := I1.mod.blt
    have hgl := I1.mod.glob.keeps I1.bk
    have hbl := hb1.keeps I1.bk
    obtain ⟨hp, g, dr, tk, os⟩ := s1
    refine wpAny_call (un_made (mb := mb) T I1.kIn hgl hbl hb2 hlim (by have := hr.dp; omega) fun h' tk' e d M => ?_)
    show MkP X pins σ Q (.ref e) ⟨h', g, dr, tk', os⟩
    obtain ⟨oe, fv, hoe, hc, hd, hdat, h1⟩ := M.obj
    have hns := M.ns
    obtain ⟨G', g1, g2⟩ := restrict h' fun b => decide (b ≠ e)
    have gk : ∀ b, b ≠ e → G'.get? b = h'.get? b := fun b hb => g1 b (decide_eq_true hb)
    have ge : G'.get? e = none := g2 e (by simp)
    have old : ∀ b o, hp.get? b = some o → G'.get? b = some o := fun b o q => (gk b (Nat.ne_of_lt (Nat.lt_of_lt_of_le (Heap.lt_size q) M.new))).trans (M.keep b o q)
    have ob : ObjOk X.prog X.w (upd H1 d (.xd [(("horizon" : Str), v)])) G' d (.xd [(("horizon" : Str), v)]) :=
      ⟨_, hns.at (fun o q => (gk d M.dne).trans q), fun f => relO_h rv f⟩
    have J : Inv X pins σ (upd H1 d (.xd [(("horizon" : Str), v)])) ⟨G', g, dr, tk', os⟩ := I1.laid (t' := tk') old M.dbig ob
    refine ⟨e, oe, fv, ⟨G', g, dr, tk', os⟩, _, .ref C, some d, rfl, J, fun b o q => ?_, ge, hoe, ⟨hc, hd⟩, hdat, h1, ?_, rfl, I1.bare, raises_own T.exC T.tyC, q1 d (I1.hok.fresh M.dbig)⟩
    · by_cases hb : b = e
      · have q' : G'.get? b = some o := q
        rw [hb, ge] at q'; cases q'
      · exact (gk b hb).symm.trans q
    · rw [upd_ne (Ne.symm M.dne)]
      exact I1.hok.fresh M.new
/-- raise Undecided(e) -/
def tRaiseUn (C : Addr) (W : WX) (ta : TA) : TS := fun _ σ H => tMkUn C ta σ H fun cls d H' => W cls d σ H'
theorem ps_raiseUn {a : PySem.Expr} {ta : TA} {W : WX} {p pos pos2 : Pos} {k : Nat} (hc : X.calm = true) (T : UnTxt X.prog X.K X.mg C fI cc cda) (hr : Room k X.A) (tk : Takes X W) (ha : PA X [a] ta) (hg : Gl X "Undecided" := by rfl)
    (he : starEach (a :: []) X.env = (false, eval a X.env) :: starEach [] X.env := by rfl) (hpl : (backTo pos (starEach [] X.env)).any (·.1) = false := by rfl) :
    PS X (.Raise (some (.Call (.Name "Undecided" p) [a] [] pos)) none pos2) (tRaiseUn C W ta) := ps_raise hc tk (pmk_un T hr ha hg he hpl)
theorem UnTxt.xf (T : UnTxt X.prog X.K X.mg C fI cc cda) : XfC X.K C := ⟨T.ga, T.gg, T.exC, T.hdC⟩
end
end NL
set_option Elab.async false
set_option linter.all false
set_option maxRecDepth 100000
set_option maxHeartbeats 4000000
namespace NL
open PySem PySem.Spec PyProof.Rows L2
/-! ### the defs of the text -/
abbrev s_rows : Stmt := topS 2
abbrev N_rows : List Str := ["task", "length", "found", "size", "row", "kind"]
abbrev P_rows : List Str := ["task", "length"]
theorem sc_rows : FnScope N_rows P_rows (defScope s_rows) := ⟨rfl, rfl, rfl, by decide +kernel, rfl, by decide +kernel, by decide +kernel⟩
abbrev s_own_work : Stmt := topS 3
abbrev N_own_work : List Str := ["kind", "size"]
abbrev P_own_work : List Str := ["kind", "size"]
theorem sc_own_work : FnScope N_own_work P_own_work (defScope s_own_work) := ⟨rfl, rfl, rfl, by decide +kernel, rfl, by decide +kernel, by decide +kernel⟩
abbrev s_best_continuation : Stmt := topS 4
abbrev N_best_continuation : List Str := ["task", "name", "size", "found", "best", "target", "distance"]
abbrev P_best_continuation : List Str := ["task", "name", "size", "found"]
theorem sc_best_continuation : FnScope N_best_continuation P_best_continuation (defScope s_best_continuation) := ⟨rfl, rfl, rfl, by decide +kernel, rfl, by decide +kernel, by decide +kernel⟩
abbrev s_demands : Stmt := topS 5
abbrev N_demands : List Str := ["task", "length", "row"]
abbrev P_demands : List Str := ["task", "length"]
theorem sc_demands : FnScope N_demands P_demands (defScope s_demands) := ⟨rfl, rfl, rfl, by decide +kernel, rfl, by decide +kernel, by decide +kernel⟩
abbrev s_system_demands : Stmt := topS 6
abbrev N_system_demands : List Str := ["system", "length", "totals", "task", "_", "size", "work"]
abbrev P_system_demands : List Str := ["system", "length"]
theorem sc_system_demands : FnScope N_system_demands P_system_demands (defScope s_system_demands) := ⟨rfl, rfl, rfl, by decide +kernel, rfl, by decide +kernel, by decide +kernel⟩
abbrev s_heaviest : Stmt := topS 7
abbrev N_heaviest : List Str := ["task", "length", "found", "greatest", "number", "time", "releases", "step", "distance"]
abbrev P_heaviest : List Str := ["task", "length"]
theorem sc_heaviest : FnScope N_heaviest P_heaviest (defScope s_heaviest) := ⟨rfl, rfl, rfl, by decide +kernel, rfl, by decide +kernel, by decide +kernel⟩
abbrev s_best_step : Stmt := topS 8
abbrev N_best_step : List Str := ["task", "name", "rest", "found", "best", "step", "target", "distance", "number", "work"]
abbrev P_best_step : List Str := ["task", "name", "rest", "found"]
theorem sc_best_step : FnScope N_best_step P_best_step (defScope s_best_step) := ⟨rfl, rfl, rfl, by decide +kernel, rfl, by decide +kernel, by decide +kernel⟩
abbrev s_greatest_deadline : Stmt := topS 17
abbrev N_greatest_deadline : List Str := ["system", "task"]
abbrev P_greatest_deadline : List Str := ["system"]
theorem sc_greatest_deadline : FnScope N_greatest_deadline P_greatest_deadline (defScope s_greatest_deadline) := ⟨rfl, rfl, rfl, by decide +kernel, rfl, by decide +kernel, by decide +kernel⟩
abbrev s_greatest_distance : Stmt := topS 18
abbrev N_greatest_distance : List Str := ["system", "task"]
abbrev P_greatest_distance : List Str := ["system"]
theorem sc_greatest_distance : FnScope N_greatest_distance P_greatest_distance (defScope s_greatest_distance) := ⟨rfl, rfl, rfl, by decide +kernel, rfl, by decide +kernel, by decide +kernel⟩
abbrev s_row_growth : Stmt := topS 19
abbrev N_row_growth : List Str := ["found", "length", "count", "step", "growth", "below", "upper", "lower", "number", "value"]
abbrev P_row_growth : List Str := ["found", "length", "count", "step"]
theorem sc_row_growth : FnScope N_row_growth P_row_growth (defScope s_row_growth) := ⟨rfl, rfl, rfl, by decide +kernel, rfl, by decide +kernel, by decide +kernel⟩
abbrev s_come_round : Stmt := topS 20
abbrev N_come_round : List Str := ["system", "found", "step", "horizon", "period", "count", "growth", "task_rows"]
abbrev P_come_round : List Str := ["system", "found", "step", "horizon"]
theorem sc_come_round : FnScope N_come_round P_come_round (defScope s_come_round) := ⟨rfl, rfl, rfl, by decide +kernel, rfl, by decide +kernel, by decide +kernel⟩
abbrev s_rounds : Stmt := topS 21
abbrev N_rounds : List Str := ["system", "horizon", "found", "period", "step", "task"]
abbrev P_rounds : List Str := ["system", "horizon"]
theorem sc_rounds : FnScope N_rounds P_rounds (defScope s_rounds) := ⟨rfl, rfl, rfl, by decide +kernel, rfl, by decide +kernel, by decide +kernel⟩
abbrev s_supply_of_first : Stmt := topS 23
abbrev N_supply_of_first : List Str := ["table", "slots", "rounds", "rest"]
abbrev P_supply_of_first : List Str := ["table", "slots"]
theorem sc_supply_of_first : FnScope N_supply_of_first P_supply_of_first (defScope s_supply_of_first) := ⟨rfl, rfl, rfl, by decide +kernel, rfl, by decide +kernel, by decide +kernel⟩
abbrev s_supply : Stmt := topS 24
abbrev N_supply : List Str := ["table", "start", "end"]
abbrev P_supply : List Str := ["table", "start", "end"]
theorem sc_supply : FnScope N_supply P_supply (defScope s_supply) := ⟨rfl, rfl, rfl, by decide +kernel, rfl, by decide +kernel, by decide +kernel⟩
abbrev s_is_name : Stmt := topS 36
abbrev N_is_name : List Str := ["text", "char"]
abbrev P_is_name : List Str := ["text"]
theorem sc_is_name : FnScope N_is_name P_is_name (defScope s_is_name) := ⟨rfl, rfl, rfl, by decide +kernel, rfl, by decide +kernel, by decide +kernel⟩
abbrev s_are_kinds : Stmt := topS 37
abbrev N_are_kinds : List Str := ["kinds", "seen", "name", "cost", "deadline"]
abbrev P_are_kinds : List Str := ["kinds"]
theorem sc_are_kinds : FnScope N_are_kinds P_are_kinds (defScope s_are_kinds) := ⟨rfl, rfl, rfl, by decide +kernel, rfl, by decide +kernel, by decide +kernel⟩
abbrev s_are_ways : Stmt := topS 38
abbrev N_are_ways : List Str := ["ways", "kind_names", "source", "target", "distance"]
abbrev P_are_ways : List Str := ["ways", "kind_names"]
theorem sc_are_ways : FnScope N_are_ways P_are_ways (defScope s_are_ways) := ⟨rfl, rfl, rfl, by decide +kernel, rfl, by decide +kernel, by decide +kernel⟩
abbrev s_is_table : Stmt := topS 39
abbrev N_is_table : List Str := ["table", "capacity"]
abbrev P_is_table : List Str := ["table"]
theorem sc_is_table : FnScope N_is_table P_is_table (defScope s_is_table) := ⟨rfl, rfl, rfl, by decide +kernel, rfl, by decide +kernel, by decide +kernel⟩
abbrev s_Task_init : Stmt := inClass (topS 40) 0
abbrev N_Task_init : List Str := ["self", "name", "kinds", "ways", "kind", "way"]
abbrev P_Task_init : List Str := ["self", "name", "kinds", "ways"]
theorem sc_Task_init : FnScope N_Task_init P_Task_init (defScope s_Task_init) := ⟨rfl, rfl, rfl, by decide +kernel, rfl, by decide +kernel, by decide +kernel⟩
abbrev s_Task_longest_distance : Stmt := inClass (topS 40) 1
abbrev N_Task_longest_distance : List Str := ["self", "way"]
abbrev P_Task_longest_distance : List Str := ["self"]
theorem sc_Task_longest_distance : FnScope N_Task_longest_distance P_Task_longest_distance (defScope s_Task_longest_distance) := ⟨rfl, rfl, rfl, by decide +kernel, rfl, by decide +kernel, by decide +kernel⟩
abbrev s_Task_latest_deadline : Stmt := inClass (topS 40) 2
abbrev N_Task_latest_deadline : List Str := ["self", "kind"]
abbrev P_Task_latest_deadline : List Str := ["self"]
theorem sc_Task_latest_deadline : FnScope N_Task_latest_deadline P_Task_latest_deadline (defScope s_Task_latest_deadline) := ⟨rfl, rfl, rfl, by decide +kernel, rfl, by decide +kernel, by decide +kernel⟩
abbrev s_Task_kind_number : Stmt := inClass (topS 40) 3
abbrev N_Task_kind_number : List Str := ["self", "kind_name", "number", "kind"]
abbrev P_Task_kind_number : List Str := ["self", "kind_name"]
theorem sc_Task_kind_number : FnScope N_Task_kind_number P_Task_kind_number (defScope s_Task_kind_number) := ⟨rfl, rfl, rfl, by decide +kernel, rfl, by decide +kernel, by decide +kernel⟩
abbrev s_Task_ways_from : Stmt := inClass (topS 40) 6
abbrev N_Task_ways_from : List Str := ["self", "kind_name", "way"]
abbrev P_Task_ways_from : List Str := ["self", "kind_name"]
theorem sc_Task_ways_from : FnScope N_Task_ways_from P_Task_ways_from (defScope s_Task_ways_from) := ⟨rfl, rfl, rfl, by decide +kernel, rfl, by decide +kernel, by decide +kernel⟩
abbrev s_System_init : Stmt := inClass (topS 41) 0
abbrev N_System_init : List Str := ["self", "tasks", "table", "names", "task"]
abbrev P_System_init : List Str := ["self", "tasks", "table"]
theorem sc_System_init : FnScope N_System_init P_System_init (defScope s_System_init) := ⟨rfl, rfl, rfl, by decide +kernel, rfl, by decide +kernel, by decide +kernel⟩
abbrev s_Backlog_init : Stmt := inClass (topS 43) 0
abbrev N_Backlog_init : List Str := ["self", "work", "instant", "start", "releases"]
abbrev P_Backlog_init : List Str := ["self", "work", "instant", "start", "releases"]
theorem sc_Backlog_init : FnScope N_Backlog_init P_Backlog_init (defScope s_Backlog_init) := ⟨rfl, rfl, rfl, by decide +kernel, rfl, by decide +kernel, by decide +kernel⟩
abbrev s_eager_task : Stmt := topS 44
abbrev N_eager_task : List Str := ["task", "kinds", "kind"]
abbrev P_eager_task : List Str := ["task"]
theorem sc_eager_task : FnScope N_eager_task P_eager_task (defScope s_eager_task) := ⟨rfl, rfl, rfl, by decide +kernel, rfl, by decide +kernel, by decide +kernel⟩
abbrev s_eager : Stmt := topS 45
abbrev N_eager : List Str := ["system", "task"]
abbrev P_eager : List Str := ["system"]
theorem sc_eager : FnScope N_eager P_eager (defScope s_eager) := ⟨rfl, rfl, rfl, by decide +kernel, rfl, by decide +kernel, by decide +kernel⟩
abbrev s_moved : Stmt := topS 46
abbrev N_moved : List Str := ["releases", "start", "time", "kind"]
abbrev P_moved : List Str := ["releases", "start"]
theorem sc_moved : FnScope N_moved P_moved (defScope s_moved) := ⟨rfl, rfl, rfl, by decide +kernel, rfl, by decide +kernel, by decide +kernel⟩
abbrev s_most_waiting : Stmt := topS 47
abbrev N_most_waiting : List Str := ["system", "horizon", "many", "work", "instant", "start", "released", "end", "releases", "length", "excess", "task"]
abbrev P_most_waiting : List Str := ["system", "horizon"]
theorem sc_most_waiting : FnScope N_most_waiting P_most_waiting (defScope s_most_waiting) := ⟨rfl, rfl, rfl, by decide +kernel, rfl, by decide +kernel, by decide +kernel⟩
abbrev s_law_row : Stmt := topS 49
abbrev N_law_row : List Str := ["_law_cell", "_law_many", "_law_row_here", "_law_rest", "_law_k", "_law_mixed"]
abbrev P_law_row : List Str := ["_law_cell", "_law_many"]
theorem sc_law_row : FnScope N_law_row P_law_row (defScope s_law_row) := ⟨rfl, rfl, rfl, by decide +kernel, rfl, by decide +kernel, by decide +kernel⟩
abbrev s_law_numbers : Stmt := topS 50
abbrev N_law_numbers : List Str := ["_law_script", "_law_many", "_law_cells", "_law_each", "_law_numbers_here", "_law_cell", "_law_number"]
abbrev P_law_numbers : List Str := ["_law_script", "_law_many"]
theorem sc_law_numbers : FnScope N_law_numbers P_law_numbers (defScope s_law_numbers) := ⟨rfl, rfl, rfl, by decide +kernel, rfl, by decide +kernel, by decide +kernel⟩
abbrev s_law_name : Stmt := topS 51
abbrev N_law_name : List Str := ["_law_number", "_law_k", "_law_text"]
abbrev P_law_name : List Str := ["_law_number", "_law_k"]
theorem sc_law_name : FnScope N_law_name P_law_name (defScope s_law_name) := ⟨rfl, rfl, rfl, by decide +kernel, rfl, by decide +kernel, by decide +kernel⟩
abbrev s_law_table : Stmt := topS 52
abbrev N_law_table : List Str := ["_law_numbers_here", "_law_at", "_law_size", "_law_k"]
abbrev P_law_table : List Str := ["_law_numbers_here", "_law_at"]
theorem sc_law_table : FnScope N_law_table P_law_table (defScope s_law_table) := ⟨rfl, rfl, rfl, by decide +kernel, rfl, by decide +kernel, by decide +kernel⟩
abbrev s_law_kinds : Stmt := topS 53
abbrev N_law_kinds : List Str := ["_law_numbers_here", "_law_at", "_law_kinds_here", "_law_k", "_law_name_here"]
abbrev P_law_kinds : List Str := ["_law_numbers_here", "_law_at"]
theorem sc_law_kinds : FnScope N_law_kinds P_law_kinds (defScope s_law_kinds) := ⟨rfl, rfl, rfl, by decide +kernel, rfl, by decide +kernel, by decide +kernel⟩
abbrev s_law_ways : Stmt := topS 54
abbrev N_law_ways : List Str := ["_law_numbers_here", "_law_at", "_law_kinds_here", "_law_ways_here", "_law_k", "_law_source", "_law_target"]
abbrev P_law_ways : List Str := ["_law_numbers_here", "_law_at", "_law_kinds_here"]
theorem sc_law_ways : FnScope N_law_ways P_law_ways (defScope s_law_ways) := ⟨rfl, rfl, rfl, by decide +kernel, rfl, by decide +kernel, by decide +kernel⟩
abbrev s_law_specs : Stmt := topS 55
abbrev N_law_specs : List Str := ["_law_numbers_here", "_law_specs_here", "_law_k", "_law_kinds_here", "_law_ways_here"]
abbrev P_law_specs : List Str := ["_law_numbers_here"]
theorem sc_law_specs : FnScope N_law_specs P_law_specs (defScope s_law_specs) := ⟨rfl, rfl, rfl, by decide +kernel, rfl, by decide +kernel, by decide +kernel⟩
abbrev s_law_scaled : Stmt := topS 56
abbrev N_law_scaled : List Str := ["_law_specs_here", "_law_factor", "_law_scaled_here", "_law_spec", "_law_kinds_here", "_law_kind"]
abbrev P_law_scaled : List Str := ["_law_specs_here", "_law_factor"]
theorem sc_law_scaled : FnScope N_law_scaled P_law_scaled (defScope s_law_scaled) := ⟨rfl, rfl, rfl, by decide +kernel, rfl, by decide +kernel, by decide +kernel⟩
abbrev s_law_system : Stmt := topS 57
abbrev N_law_system : List Str := ["_law_specs_here", "_law_table_here", "_law_tasks", "_law_spec"]
abbrev P_law_system : List Str := ["_law_specs_here", "_law_table_here"]
theorem sc_law_system : FnScope N_law_system P_law_system (defScope s_law_system) := ⟨rfl, rfl, rfl, by decide +kernel, rfl, by decide +kernel, by decide +kernel⟩
abbrev s_law_course : Stmt := topS 58
abbrev N_law_course : List Str := ["_law_numbers_here", "_law_at", "_law_kinds_here", "_law_ways_here", "_law_many", "_law_kind", "_law_time", "_law_course_here", "_law_k", "_law_choices", "_law_way"]
abbrev P_law_course : List Str := ["_law_numbers_here", "_law_at", "_law_kinds_here", "_law_ways_here", "_law_many"]
theorem sc_law_course : FnScope N_law_course P_law_course (defScope s_law_course) := ⟨rfl, rfl, rfl, by decide +kernel, rfl, by decide +kernel, by decide +kernel⟩
abbrev s_law_follows : Stmt := topS 59
abbrev N_law_follows : List Str := ["_law_spec", "_law_first", "_law_second", "_law_way"]
abbrev P_law_follows : List Str := ["_law_spec", "_law_first", "_law_second"]
theorem sc_law_follows : FnScope N_law_follows P_law_follows (defScope s_law_follows) := ⟨rfl, rfl, rfl, by decide +kernel, rfl, by decide +kernel, by decide +kernel⟩
abbrev s_law_cost : Stmt := topS 60
abbrev N_law_cost : List Str := ["_law_spec", "_law_name_here", "_law_kind"]
abbrev P_law_cost : List Str := ["_law_spec", "_law_name_here"]
theorem sc_law_cost : FnScope N_law_cost P_law_cost (defScope s_law_cost) := ⟨rfl, rfl, rfl, by decide +kernel, rfl, by decide +kernel, by decide +kernel⟩
abbrev s_law_waiting : Stmt := topS 61
abbrev N_law_waiting : List Str := ["_law_specs_here", "_law_table_here", "_law_releases", "_law_last", "_law_waiting_here", "_law_slot", "_law_work", "_law_k", "_law_release"]
abbrev P_law_waiting : List Str := ["_law_specs_here", "_law_table_here", "_law_releases", "_law_last"]
theorem sc_law_waiting : FnScope N_law_waiting P_law_waiting (defScope s_law_waiting) := ⟨rfl, rfl, rfl, by decide +kernel, rfl, by decide +kernel, by decide +kernel⟩
abbrev s_law : Stmt := topS 62
abbrev N_law : List Str := ["_law_script", "_law_numbers_here", "_law_factor", "_law_specs_here", "_law_table_here", "_law_horizon", "e", "_law_drawn", "_law_k", "_law_waiting_here", "_law_backlog", "_law_row_here", "_law_at", "_law_capacity", "_law_kind"]
abbrev P_law : List Str := ["_law_script"]
theorem sc_law : FnScope N_law P_law (defScope s_law) := ⟨rfl, rfl, rfl, by decide +kernel, rfl, by decide +kernel, by decide +kernel⟩

/-! ### what the top has written -/
structure Tx (K : PySem.W.Frag) (mg : Str → Option Value) (CT CS CB : Addr) : Prop where
  len : mg "len" = none
  range : mg "range" = none
  max : mg "max" = none
  sum : mg "sum" = none
  all : mg "all" = none
  tuple : mg "tuple" = none
  list : mg "list" = none
  int : mg "int" = none
  abs : mg "abs" = none
  divmod : mg "divmod" = none
  enumerate : mg "enumerate" = none
  isinstance : mg "isinstance" = none
  str : mg "str" = none
  c_NAME_CHARS : ∃ u, mg "NAME_CHARS" = some u ∧ RelV (.str "abcdefghijklmnopqrstuvwxyz0123456789") u
  c_MOST_NAME_CHARS : ∃ u, mg "MOST_NAME_CHARS" = some u ∧ RelV (.int 12) u
  c_MOST_KINDS : ∃ u, mg "MOST_KINDS" = some u ∧ RelV (.int 8) u
  c_MOST_WAYS : ∃ u, mg "MOST_WAYS" = some u ∧ RelV (.int 16) u
  c_MOST_COST : ∃ u, mg "MOST_COST" = some u ∧ RelV (.int 1000) u
  c_MOST_DEADLINE : ∃ u, mg "MOST_DEADLINE" = some u ∧ RelV (.int 1000) u
  c_MOST_DISTANCE : ∃ u, mg "MOST_DISTANCE" = some u ∧ RelV (.int 1000) u
  c_MOST_TASKS : ∃ u, mg "MOST_TASKS" = some u ∧ RelV (.int 6) u
  c_MOST_SLOTS : ∃ u, mg "MOST_SLOTS" = some u ∧ RelV (.int 1001) u
  c_MOST_CAPACITY : ∃ u, mg "MOST_CAPACITY" = some u ∧ RelV (.int 1000000) u
  gTask : mg "Task" = some (.ref CT)
  clTask : Cls K CT
  naTask_name : NoAttr K CT "name"
  naTask_kinds : NoAttr K CT "kinds"
  naTask_ways : NoAttr K CT "ways"
  gSystem : mg "System" = some (.ref CS)
  clSystem : Cls K CS
  naSystem_tasks : NoAttr K CS "tasks"
  naSystem_table : NoAttr K CS "table"
  gBacklog : mg "Backlog" = some (.ref CB)
  clBacklog : Cls K CB
  naBacklog_work : NoAttr K CB "work"
  naBacklog_instant : NoAttr K CB "instant"
  naBacklog_start : NoAttr K CB "start"
  naBacklog_releases : NoAttr K CB "releases"

theorem pe_gl {X : Cx} {x : Str} {v : V} {pos : Pos} (hg : Gl X x) (h : ∃ u, X.mg x = some u ∧ RelV v u) (hd : (x == ("__debug__" : Str)) = false := by decide) : PE X (.Name x pos) (tC v) := by
  obtain ⟨u, h1, h2⟩ := h
  exact pe_glob hg h1 h2 hd
theorem ix_tupK {X : Cx} (K : PySem.W.Frag) (h : X.K = K := by rfl) : IxR X (rIxT K) := h ▸ ix_tup
theorem ix_listK {X : Cx} (K : PySem.W.Frag) (h : X.K = K := by rfl) : IxR X (rIxL K) := h ▸ ix_list
theorem cr_maxK {X : Cx} (K : PySem.W.Frag) (hc : X.calm = true) (h : X.K = K := by rfl) : CallR X (.builtin "max") (rMax K) := h ▸ cr_max hc
def rListOf (K : PySem.W.Frag) : List V → Hp → VK → Prop := fun xs H Q => ∃ p ys, xs = [.ref p] ∧ (SqL K H p ys ∨ SqT K H p ys) ∧ ∀ l, H l = none → Q (.ref l) (upd H l (.lst ys))
theorem call_list_ofK {X : Cx} (K : PySem.W.Frag) (h : X.K = K := by rfl) : CallR X (.type "list") (rListOf K) := h ▸ call_list_of
theorem pg_tupK {X : Cx} (K : PySem.W.Frag) {es : List Expr} {t : TGs} {n : Nat} {k : Nat} {pos : Pos} (hc : X.calm = true) (h : PGs X es t)
    (hn : (assignEach es X.env).length = n := by rfl) (hst : (assignEach es X.env).findIdx? (·.1) = none := by rfl) (hk : X.K = K := by rfl) : PG X (.Tuple es k pos) (gTup K n t) := by
  subst hk
  exact pg_tup hc h hn hst
theorem boot_tuple : bootBuiltins "tuple" = some (.type "tuple") := by decide +kernel
theorem boot_list : bootBuiltins "list" = some (.type "list") := by decide +kernel
theorem boot_int : bootBuiltins "int" = some (.type "int") := by decide +kernel
theorem boot_str : bootBuiltins "str" = some (.type "str") := by decide +kernel
theorem boot_abs : bootBuiltins "abs" = some (.builtin "abs") := by decide +kernel
theorem boot_max : bootBuiltins "max" = some (.builtin "max") := by decide +kernel
theorem boot_sum : bootBuiltins "sum" = some (.builtin "sum") := by decide +kernel
theorem boot_all : bootBuiltins "all" = some (.builtin "all") := by decide +kernel
theorem boot_divmod : bootBuiltins "divmod" = some (.builtin "divmod") := by decide +kernel
theorem boot_isinstance : bootBuiltins "isinstance" = some (.builtin "isinstance") := by decide +kernel
section
variable (P : Program) (w : World) (K : PySem.W.Frag) (mg : Str → Option Value) (base : Heap)
/-- a def of the module that keeps its promise -/
structure CalF (x : Str) (k : Nat) (ps : List Str) (sp : Sp) (f : Addr) (fd : FuncData) : Prop where
  g : mg x = some (.ref f)
  kp : PySem.W.keepIn K (.ref f) = true
  ok : FnOk P w K mg base CX0 k f fd ps sp
  b : Binds K fd ps []
abbrev app2 {α : Type} : List α → List α → List α := fun us ws => us ++ ws
/-- one with keyword-only parameters -/
structure CalK (x : Str) (k n : Nat) (ks ps : List Str) (sp : Sp) (f : Addr) (fd : FuncData) : Prop where
  g : mg x = some (.ref f)
  kp : PySem.W.keepIn K (.ref f) = true
  ok : FnOk P w K mg base CX0 k f fd ps sp
  kb : KBn K fd ps n ks app2 app2
/-- a method -/
structure CalM (C : Addr) (m : Str) (k : Nat) (ps : List Str) (sp : Sp) (f : Addr) (fd : FuncData) : Prop where
  me : Meth K C m f
  ok : FnOk P w K mg base CX0 k f fd ps sp
  b : Binds K fd ps []
/-- a property -/
structure CalP (C : Addr) (m : Str) (k : Nat) (ps : List Str) (sp : Sp) (p f : Addr) (fd : FuncData) : Prop where
  pr : PropOf K C m p f
  ok : FnOk P w K mg base CX0 k f fd ps sp
  b : Binds K fd ps []
/-- an __init__ -/
structure CalI (C : Addr) (k : Nat) (ps : List Str) (sp : Sp) (f : Addr) (fd : FuncData) : Prop where
  mki : Mk K C f
  ok : FnOk P w K mg base CX0 k f fd ps sp
  b : Binds K fd ps []
structure CalIK (C : Addr) (k n : Nat) (ks ps : List Str) (sp : Sp) (f : Addr) (fd : FuncData) : Prop where
  mki : Mk K C f
  ok : FnOk P w K mg base CX0 k f fd ps sp
  kb : KBn K fd ps n ks app2 app2
end
end NL
set_option Elab.async false
set_option linter.all false
set_option maxRecDepth 100000
set_option maxHeartbeats 4000000
namespace NL
open PySem PySem.Spec PyProof.Rows L2
open Evl (Ex ex_l ex_t)
abbrev Slt := L2.St
/-! ### what stands, what may be changed: N the part of the heap Hc that stays as it is -/
structure Sg (B H N Hc : Hp) : Prop where
  eN : Ex B N
  eH : Ex N Hc
  e0 : Ex H Hc
  nw : ∀ a o, N a = some o → B a = some o ∨ H a = none
section
variable {B H N Hc N' H' : Hp} {p l : Addr} {o u : HO}
theorem Sg.refl (e : Ex B H) : Sg B H B H := ⟨Ex.refl _, e, Ex.refl _, fun _ _ q => .inl q⟩
theorem Sg.self (H : Hp) : Sg H H H H := .refl (Ex.refl _)
theorem Sg.trans (a : Sg B H N Hc) (b : Sg N Hc N' H') : Sg B H N' H' := ⟨a.eN.trans b.eN, b.eH, a.e0.trans b.e0, fun c q h => by
  rcases b.nw c q h with z | z
  · exact a.nw c q z
  · exact .inr (Evl.fresh_back a.e0 z)⟩
theorem Sg.free (a : Sg B H N Hc) (h : Hc p = none) : N p = none ∧ H p = none := ⟨Evl.fresh_back a.eH h, Evl.fresh_back a.e0 h⟩
/-- a new object that stays -/
theorem Sg.new (a : Sg B H N Hc) (h : Hc p = none) : Sg B H (upd N p o) (upd Hc p o) := by
  obtain ⟨h1, h2⟩ := a.free h
  refine ⟨fun b q z => ?_, fun b q z => ?_, fun b q z => ?_, fun b q z => ?_⟩
  · have y := a.eN b q z
    rw [upd_ne (ne_of_none y h1)]
    exact y
  · by_cases e : b = p
    · subst e; rw [upd_same] at z ⊢; exact z
    · rw [upd_ne e] at z ⊢; exact a.eH b q z
  · rw [upd_ne (ne_of_none z h2)]; exact a.e0 b q z
  · by_cases e : b = p
    · subst e; exact .inr h2
    · rw [upd_ne e] at z; exact a.nw b q z
/-- an object that is not among what stays is laid or changed -/
theorem Sg.mut (a : Sg B H N Hc) (h1 : N l = none) (h2 : H l = none) : Sg B H N (upd Hc l o) :=
  ⟨a.eN, fun b q z => by rw [upd_ne (ne_of_none z h1)]; exact a.eH b q z, fun b q z => by rw [upd_ne (ne_of_none z h2)]; exact a.e0 b q z, a.nw⟩
/-- it stays from here on -/
theorem Sg.keep (a : Sg B H N Hc) (h1 : N l = none) (h2 : H l = none) (h : Hc l = some o) : Sg B H (upd N l o) Hc :=
  ⟨fun b q z => by rw [upd_ne (ne_of_none (a.eN b q z) h1)]; exact a.eN b q z, fun b q z => by
    by_cases e : b = l
    · subst e; rw [upd_same] at z; cases z; exact h
    · rw [upd_ne e] at z; exact a.eH b q z, a.e0, fun b q z => by
    by_cases e : b = l
    · subst e; exact .inr h2
    · rw [upd_ne e] at z; exact a.nw b q z⟩
theorem ex_upd (h : N l = none) : Ex N (upd N l o) := Ex.new h
/-- what is not among what stays, is not behind a further piece -/
theorem Sg.away (b : Sg N Hc N' H') (h1 : N l = none) (h : Hc l = some o) : N' l = none ∧ H' l = some o := by
  refine ⟨?_, b.e0 l o h⟩
  cases q : N' l with
  | none => rfl
  | some u =>
    rcases b.nw l u q with z | z
    · rw [h1] at z; cases z
    · rw [h] at z; cases z
end
/-! ### data -/
abbrev Rl (α : Type) := α → V → Hp → Prop
def Mono {α : Type} (R : Rl α) : Prop := ∀ x v H H', Ex H H' → R x v H → R x v H'
abbrev Pr {α : Type} (R : Rl α) (N : Hp) : List α → List V → Prop := Paired fun x u => R x u N
def rI : Rl Int := fun i v _ => v = .int i
def rS : Rl Str := fun z v _ => v = .str z
section
variable (K : PySem.W.Frag)
def LR {α : Type} (R : Rl α) : Rl (List α) := fun xs v H => ∃ a vs, v = .ref a ∧ SqL K H a vs ∧ Pr R H xs vs
def TR {α : Type} (R : Rl α) : Rl (List α) := fun xs v H => ∃ a vs, v = .ref a ∧ SqT K H a vs ∧ Pr R H xs vs
def LI : Rl (List Int) := fun ns v H => ∃ a, v = .ref a ∧ SqL K H a (ns.map V.int)
def TI : Rl (List Int) := fun ns v H => ∃ a, v = .ref a ∧ SqT K H a (ns.map V.int)
def LS : Rl (List Str) := fun ns v H => ∃ a, v = .ref a ∧ SqL K H a (ns.map V.str)
abbrev K3 := Str × Int × Int
abbrev W3 := Str × Str × Int
def rK3 : Rl K3 := fun k v H => ∃ a, v = .ref a ∧ SqT K H a [.str k.1, .int k.2.1, .int k.2.2]
def rW3 : Rl W3 := fun k v H => ∃ a, v = .ref a ∧ SqT K H a [.str k.1, .str k.2.1, .int k.2.2]
def rRel : Rl (Int × Str) := fun k v H => ∃ a, v = .ref a ∧ SqT K H a [.int k.1, .str k.2]
def rSI : Rl (Str × Int) := fun k v H => ∃ a, v = .ref a ∧ SqT K H a [.str k.1, .int k.2]
end
section
variable {K : PySem.W.Frag}
theorem mono_I : Mono rI := fun _ _ _ _ _ h => h
theorem mono_S : Mono rS := fun _ _ _ _ _ h => h
theorem Pr.mono {α : Type} {R : Rl α} (m : Mono R) {N N' : Hp} (e : Ex N N') {xs : List α} {vs : List V} (h : Pr R N xs vs) : Pr R N' xs vs := Paired.mapP h fun x u z => m x u N N' e z
theorem mono_LR {α : Type} {R : Rl α} (m : Mono R) : Mono (LR K R) := fun _ _ _ _ e ⟨a, vs, h1, h2, h3⟩ => ⟨a, vs, h1, ex_l e h2, Pr.mono m e h3⟩
theorem mono_TR {α : Type} {R : Rl α} (m : Mono R) : Mono (TR K R) := fun _ _ _ _ e ⟨a, vs, h1, h2, h3⟩ => ⟨a, vs, h1, ex_t e h2, Pr.mono m e h3⟩
theorem mono_LI : Mono (LI K) := fun _ _ _ _ e ⟨a, h1, h2⟩ => ⟨a, h1, ex_l e h2⟩
theorem mono_TI : Mono (TI K) := fun _ _ _ _ e ⟨a, h1, h2⟩ => ⟨a, h1, ex_t e h2⟩
theorem mono_LS : Mono (LS K) := fun _ _ _ _ e ⟨a, h1, h2⟩ => ⟨a, h1, ex_l e h2⟩
theorem mono_K3 : Mono (rK3 K) := fun _ _ _ _ e ⟨a, h1, h2⟩ => ⟨a, h1, ex_t e h2⟩
theorem mono_W3 : Mono (rW3 K) := fun _ _ _ _ e ⟨a, h1, h2⟩ => ⟨a, h1, ex_t e h2⟩
theorem mono_Rel : Mono (rRel K) := fun _ _ _ _ e ⟨a, h1, h2⟩ => ⟨a, h1, ex_t e h2⟩
theorem mono_SI : Mono (rSI K) := fun _ _ _ _ e ⟨a, h1, h2⟩ => ⟨a, h1, ex_t e h2⟩
theorem Pr.len {α : Type} {R : Rl α} {N : Hp} {xs : List α} {vs : List V} (h : Pr R N xs vs) : xs.length = vs.length := Paired.length h
theorem Pr.get {α : Type} {R : Rl α} {N : Hp} : ∀ {xs : List α} {vs : List V} {i : Nat} {x : α}, Pr R N xs vs → xs[i]? = some x → ∃ v, vs[i]? = some v ∧ R x v N
  | _, _, _, _, .nil, e => by simp at e
  | _, _, 0, _, .cons r _, e => by simp at e; subst e; exact ⟨_, rfl, r⟩
  | _, _, i + 1, x, .cons _ t, e => by
    obtain ⟨u, h1, h2⟩ := Pr.get (i := i) (x := x) t (by simpa using e)
    exact ⟨u, by simpa using h1, h2⟩
theorem Pr.get' {α : Type} {R : Rl α} {N : Hp} {xs : List α} {vs : List V} {i : Nat} {v : V} (h : Pr R N xs vs) (e : vs[i]? = some v) : ∃ x, xs[i]? = some x ∧ R x v N := by
  have hl := (List.getElem?_eq_some_iff.mp e).1
  have hx : i < xs.length := by rw [h.len]; exact hl
  obtain ⟨u, h1, h2⟩ := h.get (List.getElem?_eq_getElem hx)
  rw [e] at h1
  cases h1
  exact ⟨_, List.getElem?_eq_getElem hx, h2⟩
theorem Pr.snoc {α : Type} {R : Rl α} {N : Hp} {x : α} {v : V} (r : R x v N) : ∀ {xs : List α} {vs : List V}, Pr R N xs vs → Pr R N (xs ++ [x]) (vs ++ [v])
  | _, _, .nil => .cons r .nil
  | _, _, .cons q t => .cons q (Pr.snoc r t)
theorem Pr.ints {N : Hp} : ∀ {ns : List Int} {vs : List V}, Pr rI N ns vs → vs = ns.map V.int
  | _, _, .nil => rfl
  | _, _, .cons q t => by
    rw [List.map_cons, ← Pr.ints t]
    cases q
    rfl
theorem Pr.of_ints {N : Hp} : ∀ ns : List Int, Pr rI N ns (ns.map V.int)
  | [] => .nil
  | _ :: ns => .cons rfl (Pr.of_ints ns)
theorem Pr.strs {N : Hp} : ∀ {ns : List Str} {vs : List V}, Pr rS N ns vs → vs = ns.map V.str
  | _, _, .nil => rfl
  | _, _, .cons q t => by
    rw [List.map_cons, ← Pr.strs t]
    cases q
    rfl
theorem Pr.of_strs {N : Hp} : ∀ ns : List Str, Pr rS N ns (ns.map V.str)
  | [] => .nil
  | _ :: ns => .cons rfl (Pr.of_strs ns)
def rB : Rl Bool := fun b v _ => v = .bl b
theorem mono_B : Mono rB := fun _ _ _ _ _ h => h
theorem Pr.bools {N : Hp} : ∀ {ns : List Bool} {vs : List V}, Pr rB N ns vs → vs = ns.map V.bl
  | _, _, .nil => rfl
  | _, _, .cons q t => by
    rw [List.map_cons, ← Pr.bools t]
    cases q
    rfl
theorem TI.tr {ns : List Int} {v : V} {H : Hp} (h : TI K ns v H) : TR K rI ns v H := by
  obtain ⟨a, h1, h2⟩ := h
  exact ⟨a, _, h1, h2, Pr.of_ints ns⟩
theorem LI.of {ns : List Int} {v : V} {H : Hp} (h : LR K rI ns v H) : LI K ns v H := by
  obtain ⟨a, vs, h1, h2, h3⟩ := h
  rw [h3.ints] at h2
  exact ⟨a, h1, h2⟩
theorem LI.lr {ns : List Int} {v : V} {H : Hp} (h : LI K ns v H) : LR K rI ns v H := by
  obtain ⟨a, h1, h2⟩ := h
  exact ⟨a, _, h1, h2, Pr.of_ints ns⟩
theorem LS.of {ns : List Str} {v : V} {H : Hp} (h : LR K rS ns v H) : LS K ns v H := by
  obtain ⟨a, vs, h1, h2, h3⟩ := h
  rw [h3.strs] at h2
  exact ⟨a, h1, h2⟩
theorem atI_of {xs : List V} {z : Int} {j : Nat} {v : V} (e : z = (j : Int)) (h : xs[j]? = some v) : atI xs z = some v := by
  rw [e]
  exact atI_nat h
theorem take_succ_get {α : Type} {l : List α} {i : Nat} {x : α} (h : l[i]? = some x) : l.take (i + 1) = l.take i ++ [x] := by
  rw [List.take_add_one, h]
  rfl
/-! ### loops -/
section
variable {α : Type} {R : Rl α} {xs : List α} {a : Addr} {vs : List V} {N Hc : Hp} {σ : Slt} {g : TG} {tb : TS} {D : Ends}
theorem for_LR (ha : SqL K N a vs) (hp : Pr R N xs vs) (Pv : Nat → Slt → Hp → Prop) (h0 : Pv 0 σ Hc) (hN : ∀ i σ' H', Pv i σ' H' → Ex N H')
    (hs : ∀ i x v σ' H', xs[i]? = some x → R x v N → Pv i σ' H' → g v σ' H' fun σ2 H2 => tb { D with nx := Pv (i + 1), ct := Pv (i + 1), bk := D.nx } σ2 H2) (hd : ∀ σ' H', Pv xs.length σ' H' → D.nx σ' H') :
    ∃ W : Nat → Nat → Slt → Hp → Prop, (∃ m, W 0 m σ Hc) ∧ ∀ i m σ H, W i m σ H →
      ((Itl K a).stop i H ∧ D.nx σ H) ∨ ((Itl K a).go i H ∧ ∃ N : Slt → Hp → Prop, (∀ σ' H', N σ' H' → ∃ m', m' < m ∧ W (i + 1) m' σ' H') ∧ ∀ x H', (Itl K a).yld i H x H' → g x σ H' fun σ2 H2 => tb { D with nx := N, ct := N, bk := D.nx } σ2 H2) :=
  for_list (K := K) (a := a) (xs := vs) Pv h0 (fun i σ' H' _ p => ex_l (hN i σ' H' p) ha) (fun i v σ' H' hi p => by
    obtain ⟨x, hx, r⟩ := hp.get' hi
    exact hs i x v σ' H' hx r p) (fun σ' H' p => hd σ' H' (by rw [hp.len]; exact p))
theorem for_TR (ha : SqT K N a vs) (hp : Pr R N xs vs) (Pv : Nat → Slt → Hp → Prop) (h0 : Pv 0 σ Hc) (hN : ∀ i σ' H', Pv i σ' H' → Ex N H')
    (hs : ∀ i x v σ' H', xs[i]? = some x → R x v N → Pv i σ' H' → g v σ' H' fun σ2 H2 => tb { D with nx := Pv (i + 1), ct := Pv (i + 1), bk := D.nx } σ2 H2) (hd : ∀ σ' H', Pv xs.length σ' H' → D.nx σ' H') :
    ∃ W : Nat → Nat → Slt → Hp → Prop, (∃ m, W 0 m σ Hc) ∧ ∀ i m σ H, W i m σ H →
      ((Itt K a).stop i H ∧ D.nx σ H) ∨ ((Itt K a).go i H ∧ ∃ N : Slt → Hp → Prop, (∀ σ' H', N σ' H' → ∃ m', m' < m ∧ W (i + 1) m' σ' H') ∧ ∀ x H', (Itt K a).yld i H x H' → g x σ H' fun σ2 H2 => tb { D with nx := N, ct := N, bk := D.nx } σ2 H2) :=
  for_tup (K := K) (a := a) (xs := vs) Pv h0 (fun i σ' H' _ p => ex_t (hN i σ' H' p) ha) (fun i v σ' H' hi p => by
    obtain ⟨x, hx, r⟩ := hp.get' hi
    exact hs i x v σ' H' hx r p) (fun σ' H' p => hd σ' H' (by rw [hp.len]; exact p))
end
/-! ### comprehensions -/
section
variable {α β : Type} {R : Rl α} {S : Rl β} {xs : List α} {a : Addr} {vs0 : List V} {B H N Hc : Hp} {σ : Slt} {g : TG} {tt : TT} {te : TE} {own : List Nat} {Q : VK}
/-- what stands at a turn -/
def LcP (S : Rl β) (B H N : Hp) (D : Addr) (ys : List β) (H' : Hp) : Prop := ∃ N', Ex N N' ∧ Sg B H N' H' ∧ N' D = none ∧ H D = none ∧ ∃ acc, H' D = some (.lst acc) ∧ Pr S N' ys acc
/-- one turn's work: what follows a turn that gives nothing, what follows one that gives y -/
abbrev LcT (S : Rl β) (g : TG) (tt : TT) (te : TE) (own : List Nat) (σ : Slt) (N' H' : Hp) (v : V) (b : Bool) (y : β) : Prop :=
  ∀ (Nn : Hp → Prop) (Y : V → Hp → Prop), (b = false → ∀ N2 H2, Sg N' H' N2 H2 → Nn H2) → (b = true → ∀ u N2 H2, Sg N' H' N2 H2 → S y u N2 → Y u H2) →
    g v (wipe σ own) H' fun σ2 H2 => wipe σ2 own = wipe σ own ∧ tt σ2 H2 fun b H3 => if b = true then te σ2 H3 Y else Nn H3
theorem lcp_turn (mS : Mono S) {D : Addr} {ys : List β} {H' : Hp} {v : V} {b : Bool} {y : β} (hlen : ys.length < 100000) (p : LcP S B H N D ys H') (hs : ∀ N', Ex N N' → Sg B H N' H' → LcT S g tt te own σ N' H' v b y) {Pn : Hp → Prop}
    (hP : ∀ H2, LcP S B H N D (if b = true then ys ++ [y] else ys) H2 → Pn H2) :
    g v (wipe σ own) H' fun σ2 H2 => wipe σ2 own = wipe σ own ∧ tt σ2 H2 fun b H3 => if b = true then te σ2 H3 fun y H4 => ∃ acc, H4 D = some (.lst acc) ∧ acc.length < sizeLine ∧ Pn (upd H4 D (.lst (acc ++ [y]))) else Pn H3 := by
  obtain ⟨N', e, G, h1, h2, acc, hD, hp⟩ := p
  refine hs N' e G _ _ (fun hb N2 H2 G2 => hP _ ?_) (fun hb u N2 H2 G2 r => ?_)
  · rw [hb, if_neg (by decide)]
    obtain ⟨k1, k2⟩ := G2.away h1 hD
    exact ⟨N2, e.trans G2.eN, G.trans G2, k1, h2, acc, k2, Pr.mono mS G2.eN hp⟩
  · obtain ⟨k1, k2⟩ := G2.away h1 hD
    refine ⟨acc, k2, ?_, hP _ ?_⟩
    · have := hp.len
      have hz : sizeLine = 16777216 := sizeLine_eq
      omega
    · rw [hb, if_pos rfl]
      exact ⟨N2, e.trans G2.eN, (G.trans G2).mut k1 h2, k1, h2, _, upd_same, Pr.snoc r (Pr.mono mS G2.eN hp)⟩
theorem lcp_end {D : Addr} {ys : List β} {H' : Hp} (p : LcP S B H N D ys H') (mS : Mono S) (hq : ∀ v N' H', Ex N N' → Sg B H N' H' → LR K S ys v N' → Q v H') : Q (.ref D) H' := by
  obtain ⟨N', e, G, h1, h2, acc, hD, hp⟩ := p
  exact hq _ _ _ (e.trans (ex_upd h1)) (G.keep h1 h2 hD) ⟨D, acc, rfl, .inl (.inl upd_same), Pr.mono mS (ex_upd h1) hp⟩
theorem lcp_ends {D : Addr} {ys : List β} {H' : Hp} (p : LcP S B H N D ys H') (mS : Mono S) (hq : ∀ D N' H', Ex N N' → Sg B H N' H' → (∃ vs, N' D = some (.lst vs) ∧ Pr S N' ys vs) → Q (.ref D) H') : Q (.ref D) H' := by
  obtain ⟨N', e, G, h1, h2, acc, hD, hp⟩ := p
  exact hq _ _ _ (e.trans (ex_upd h1)) (G.keep h1 h2 hD) ⟨acc, upd_same, Pr.mono mS (ex_upd h1) hp⟩
theorem filt_take (keep : α → Bool) (f : α → β) {i : Nat} {x : α} (h : xs[i]? = some x) : ((xs.take (i + 1)).filter keep).map f = if keep x = true then ((xs.take i).filter keep).map f ++ [f x] else ((xs.take i).filter keep).map f := by
  rw [take_succ_get h, List.filter_append, List.map_append]
  cases hk : keep x with
  | true => simp [hk]
  | false => simp [hk]
theorem lc_LR (mS : Mono S) (G : Sg B H N Hc) (ha : SqL K N a vs0) (hp : Pr R N xs vs0) (keep : α → Bool) (f : α → β) (hlen : xs.length ≤ 10000)
    (hs : ∀ x v N' H', x ∈ xs → R x v N → Ex N N' → Sg B H N' H' → LcT S g tt te own σ N' H' v (keep x) (f x)) (hq : ∀ v N' H', Ex N N' → Sg B H N' H' → LR K S ((xs.filter keep).map f) v N' → Q v H') :
    ∀ D, Hc D = none → ∃ W : Nat → Nat → Hp → Prop, (∃ m, W 0 m (upd Hc D (.lst []))) ∧ ∀ i m H, W i m H →
      ((Itl K a).stop i H ∧ Q (.ref D) H) ∨ ((Itl K a).go i H ∧ ∃ Nx : Hp → Prop, (∀ H', Nx H' → ∃ m', m' < m ∧ W (i + 1) m' H') ∧ ∀ x H', (Itl K a).yld i H x H' → g x (wipe σ own) H' fun σ2 H2 => wipe σ2 own = wipe σ own ∧ tt σ2 H2 fun b H3 =>
        if b = true then te σ2 H3 fun y H4 => ∃ acc, H4 D = some (.lst acc) ∧ acc.length < sizeLine ∧ Nx (upd H4 D (.lst (acc ++ [y]))) else Nx H3) := fun D hD => by
  obtain ⟨f1, f2⟩ := G.free hD
  refine lc_list (K := K) (a := a) (xs := vs0) (fun i H' => LcP S B H N D (((xs.take i).filter keep).map f) H') ⟨N, Ex.refl _, G.mut f1 f2, f1, f2, [], upd_same, .nil⟩
    (fun i H' _ ⟨N', e, G', _⟩ => ex_l (e.trans G'.eH) ha) (fun i v H' hi p => ?_) (fun H' p => ?_)
  · obtain ⟨x, hx, r⟩ := hp.get' hi
    refine lcp_turn mS ?_ p (fun N' e G' => hs x v N' H' (List.mem_of_getElem? hx) r e G') fun H2 p2 => ?_
    · rw [List.length_map]
      have q1 := List.length_filter_le keep (xs.take i)
      rw [List.length_take] at q1
      omega
    · show LcP S B H N D (((xs.take (i + 1)).filter keep).map f) H2
      rw [filt_take keep f hx]
      exact p2
  · have p2 : LcP S B H N D (((xs.take vs0.length).filter keep).map f) H' := p
    rw [← hp.len, List.take_length] at p2
    exact lcp_end p2 mS hq
theorem lc_TR (mS : Mono S) (G : Sg B H N Hc) (ha : SqT K N a vs0) (hp : Pr R N xs vs0) (keep : α → Bool) (f : α → β) (hlen : xs.length ≤ 10000)
    (hs : ∀ x v N' H', x ∈ xs → R x v N → Ex N N' → Sg B H N' H' → LcT S g tt te own σ N' H' v (keep x) (f x)) (hq : ∀ v N' H', Ex N N' → Sg B H N' H' → LR K S ((xs.filter keep).map f) v N' → Q v H') :
    ∀ D, Hc D = none → ∃ W : Nat → Nat → Hp → Prop, (∃ m, W 0 m (upd Hc D (.lst []))) ∧ ∀ i m H, W i m H →
      ((Itt K a).stop i H ∧ Q (.ref D) H) ∨ ((Itt K a).go i H ∧ ∃ Nx : Hp → Prop, (∀ H', Nx H' → ∃ m', m' < m ∧ W (i + 1) m' H') ∧ ∀ x H', (Itt K a).yld i H x H' → g x (wipe σ own) H' fun σ2 H2 => wipe σ2 own = wipe σ own ∧ tt σ2 H2 fun b H3 =>
        if b = true then te σ2 H3 fun y H4 => ∃ acc, H4 D = some (.lst acc) ∧ acc.length < sizeLine ∧ Nx (upd H4 D (.lst (acc ++ [y]))) else Nx H3) := fun D hD => by
  obtain ⟨f1, f2⟩ := G.free hD
  refine lc_tup (K := K) (a := a) (xs := vs0) (fun i H' => LcP S B H N D (((xs.take i).filter keep).map f) H') ⟨N, Ex.refl _, G.mut f1 f2, f1, f2, [], upd_same, .nil⟩
    (fun i H' _ ⟨N', e, G', _⟩ => ex_t (e.trans G'.eH) ha) (fun i v H' hi p => ?_) (fun H' p => ?_)
  · obtain ⟨x, hx, r⟩ := hp.get' hi
    refine lcp_turn mS ?_ p (fun N' e G' => hs x v N' H' (List.mem_of_getElem? hx) r e G') fun H2 p2 => ?_
    · rw [List.length_map]
      have q1 := List.length_filter_le keep (xs.take i)
      rw [List.length_take] at q1
      omega
    · show LcP S B H N D (((xs.take (i + 1)).filter keep).map f) H2
      rw [filt_take keep f hx]
      exact p2
  · have p2 : LcP S B H N D (((xs.take vs0.length).filter keep).map f) H' := p
    rw [← hp.len, List.take_length] at p2
    exact lcp_end p2 mS hq
/-- over range(n) -/
theorem lc_RR (mS : Mono S) (G : Sg B H N Hc) (n : Nat) (f : Nat → β) (hlen : n ≤ 10000)
    (hs : ∀ (i : Nat) N' H', i < n → Ex N N' → Sg B H N' H' → LcT S g tt te own σ N' H' (.int (0 + (i : Int))) true (f i)) (hq : ∀ v N' H', Ex N N' → Sg B H N' H' → LR K S ((List.range n).map f) v N' → Q v H') :
    ∀ D, Hc D = none → ∃ W : Nat → Nat → Hp → Prop, (∃ m, W 0 m (upd Hc D (.lst []))) ∧ ∀ i m H, W i m H →
      ((Itr 0 n).stop i H ∧ Q (.ref D) H) ∨ ((Itr 0 n).go i H ∧ ∃ Nx : Hp → Prop, (∀ H', Nx H' → ∃ m', m' < m ∧ W (i + 1) m' H') ∧ ∀ x H', (Itr 0 n).yld i H x H' → g x (wipe σ own) H' fun σ2 H2 => wipe σ2 own = wipe σ own ∧ tt σ2 H2 fun b H3 =>
        if b = true then te σ2 H3 fun y H4 => ∃ acc, H4 D = some (.lst acc) ∧ acc.length < sizeLine ∧ Nx (upd H4 D (.lst (acc ++ [y]))) else Nx H3) := fun D hD => by
  obtain ⟨f1, f2⟩ := G.free hD
  refine lc_range (lo := 0) (n := n) (fun i H' => LcP S B H N D ((List.range i).map f) H') ⟨N, Ex.refl _, G.mut f1 f2, f1, f2, [], upd_same, .nil⟩ (fun i H' hi p => ?_) (fun H' p => lcp_end p mS hq)
  refine lcp_turn mS ?_ p (fun N' e G' => hs i N' H' hi e G') fun H2 p2 => ?_
  · rw [List.length_map, List.length_range]
    omega
  · rw [if_pos rfl] at p2
    show LcP S B H N D ((List.range (i + 1)).map f) H2
    rw [List.range_succ, List.map_append]
    exact p2
/-- over range(n), the list still to be changed -/
theorem lc_RRm (mS : Mono S) (G : Sg B H N Hc) (n : Nat) (f : Nat → β) (hlen : n ≤ 10000)
    (hs : ∀ (i : Nat) N' H', i < n → Ex N N' → Sg B H N' H' → LcT S g tt te own σ N' H' (.int (0 + (i : Int))) true (f i)) (hq : ∀ D H', LcP S B H N D ((List.range n).map f) H' → Q (.ref D) H') :
    ∀ D, Hc D = none → ∃ W : Nat → Nat → Hp → Prop, (∃ m, W 0 m (upd Hc D (.lst []))) ∧ ∀ i m H, W i m H →
      ((Itr 0 n).stop i H ∧ Q (.ref D) H) ∨ ((Itr 0 n).go i H ∧ ∃ Nx : Hp → Prop, (∀ H', Nx H' → ∃ m', m' < m ∧ W (i + 1) m' H') ∧ ∀ x H', (Itr 0 n).yld i H x H' → g x (wipe σ own) H' fun σ2 H2 => wipe σ2 own = wipe σ own ∧ tt σ2 H2 fun b H3 =>
        if b = true then te σ2 H3 fun y H4 => ∃ acc, H4 D = some (.lst acc) ∧ acc.length < sizeLine ∧ Nx (upd H4 D (.lst (acc ++ [y]))) else Nx H3) := fun D hD => by
  obtain ⟨f1, f2⟩ := G.free hD
  refine lc_range (lo := 0) (n := n) (fun i H' => LcP S B H N D ((List.range i).map f) H') ⟨N, Ex.refl _, G.mut f1 f2, f1, f2, [], upd_same, .nil⟩ (fun i H' hi p => ?_) (fun H' p => hq D H' p)
  refine lcp_turn mS ?_ p (fun N' e G' => hs i N' H' hi e G') fun H2 p2 => ?_
  · rw [List.length_map, List.length_range]
    omega
  · rw [if_pos rfl] at p2
    show LcP S B H N D ((List.range (i + 1)).map f) H2
    rw [List.range_succ, List.map_append]
    exact p2
/-- over a text's signs -/
theorem lc_ST (mS : Mono S) (G : Sg B H N Hc) (z : Str) (f : Nat → β) (hlen : z.cps.size ≤ 10000)
    (hs : ∀ (c : Nat) N' H', c ∈ z.cps.toList → Ex N N' → Sg B H N' H' → LcT S g tt te own σ N' H' (.str ⟨#[c]⟩) true (f c)) (hq : ∀ v N' H', Ex N N' → Sg B H N' H' → LR K S (z.cps.toList.map f) v N' → Q v H') :
    ∀ D, Hc D = none → ∃ W : Nat → Nat → Hp → Prop, (∃ m, W 0 m (upd Hc D (.lst []))) ∧ ∀ i m H, W i m H →
      ((Its z).stop i H ∧ Q (.ref D) H) ∨ ((Its z).go i H ∧ ∃ Nx : Hp → Prop, (∀ H', Nx H' → ∃ m', m' < m ∧ W (i + 1) m' H') ∧ ∀ x H', (Its z).yld i H x H' → g x (wipe σ own) H' fun σ2 H2 => wipe σ2 own = wipe σ own ∧ tt σ2 H2 fun b H3 =>
        if b = true then te σ2 H3 fun y H4 => ∃ acc, H4 D = some (.lst acc) ∧ acc.length < sizeLine ∧ Nx (upd H4 D (.lst (acc ++ [y]))) else Nx H3) := fun D hD => by
  obtain ⟨f1, f2⟩ := G.free hD
  refine lc_it (Qd := fun H => Q (.ref D) H) walk_str (fun i H' => LcP S B H N D ((z.cps.toList.take i).map f) H') ⟨N, Ex.refl _, G.mut f1 f2, f1, f2, [], upd_same, .nil⟩ (fun _ _ _ _ => trivial) (fun i x H0 H1 hi p y => ?_) (fun H' p => ?_)
  · obtain ⟨rfl, c, hc, rfl⟩ := y
    have hc' : z.cps.toList[i]? = some c := by rw [Array.getElem?_toList]; exact hc
    refine lcp_turn mS ?_ p (fun N' e G' => hs c N' H1 (List.mem_of_getElem? hc') e G') fun H2 p2 => ?_
    · rw [List.length_map, List.length_take]
      omega
    · rw [if_pos rfl] at p2
      show LcP S B H N D ((z.cps.toList.take (i + 1)).map f) H2
      rw [take_succ_get hc', List.map_append]
      exact p2
  · have p2 : LcP S B H N D ((z.cps.toList.take z.cps.size).map f) H' := p
    rw [← Array.length_toList, List.take_length] at p2
    exact lcp_end p2 mS hq
variable {wi : L2.TI} {H0 : Hp}
theorem tlc_TR (mS : Mono S) (hwi : ∀ R : It → Hp → Prop, R (Itt K a) Hc → wi σ H0 R) (G : Sg B H N Hc) (ha : SqT K N a vs0) (hp : Pr R N xs vs0) (keep : α → Bool) (f : α → β) (hlen : xs.length ≤ 10000)
    (hs : ∀ x v N' H', x ∈ xs → R x v N → Ex N N' → Sg B H N' H' → LcT S g tt te own σ N' H' v (keep x) (f x)) (hq : ∀ v N' H', Ex N N' → Sg B H N' H' → LR K S ((xs.filter keep).map f) v N' → Q v H') : tLc wi g tt te own σ H0 Q :=
  hwi _ (lc_TR mS G ha hp keep f hlen hs hq)
theorem tlc_LR (mS : Mono S) (hwi : ∀ R : It → Hp → Prop, R (Itl K a) Hc → wi σ H0 R) (G : Sg B H N Hc) (ha : SqL K N a vs0) (hp : Pr R N xs vs0) (keep : α → Bool) (f : α → β) (hlen : xs.length ≤ 10000)
    (hs : ∀ x v N' H', x ∈ xs → R x v N → Ex N N' → Sg B H N' H' → LcT S g tt te own σ N' H' v (keep x) (f x)) (hq : ∀ v N' H', Ex N N' → Sg B H N' H' → LR K S ((xs.filter keep).map f) v N' → Q v H') : tLc wi g tt te own σ H0 Q :=
  hwi _ (lc_LR mS G ha hp keep f hlen hs hq)
theorem tlc_RR (mS : Mono S) (n : Nat) (hwi : ∀ R : It → Hp → Prop, R (Itr 0 n) Hc → wi σ H0 R) (G : Sg B H N Hc) (f : Nat → β) (hlen : n ≤ 10000)
    (hs : ∀ (i : Nat) N' H', i < n → Ex N N' → Sg B H N' H' → LcT S g tt te own σ N' H' (.int (0 + (i : Int))) true (f i)) (hq : ∀ v N' H', Ex N N' → Sg B H N' H' → LR K S ((List.range n).map f) v N' → Q v H') : tLc wi g tt te own σ H0 Q :=
  hwi _ (lc_RR (K := K) mS G n f hlen hs hq)
theorem tlc_ST (mS : Mono S) (z : Str) (hwi : ∀ R : It → Hp → Prop, R (Its z) Hc → wi σ H0 R) (G : Sg B H N Hc) (f : Nat → β) (hlen : z.cps.size ≤ 10000)
    (hs : ∀ (c : Nat) N' H', c ∈ z.cps.toList → Ex N N' → Sg B H N' H' → LcT S g tt te own σ N' H' (.str ⟨#[c]⟩) true (f c)) (hq : ∀ v N' H', Ex N N' → Sg B H N' H' → LR K S (z.cps.toList.map f) v N' → Q v H') : tLc wi g tt te own σ H0 Q :=
  hwi _ (lc_ST (K := K) mS G z f hlen hs hq)
theorem tlc_RRm (mS : Mono S) (n : Nat) (hwi : ∀ R : It → Hp → Prop, R (Itr 0 n) Hc → wi σ H0 R) (G : Sg B H N Hc) (f : Nat → β) (hlen : n ≤ 10000)
    (hs : ∀ (i : Nat) N' H', i < n → Ex N N' → Sg B H N' H' → LcT S g tt te own σ N' H' (.int (0 + (i : Int))) true (f i)) (hq : ∀ D H', LcP S B H N D ((List.range n).map f) H' → Q (.ref D) H') : tLc wi g tt te own σ H0 Q :=
  hwi _ (lc_RRm mS G n f hlen hs hq)
theorem tlc_TRs (mS : Mono S) (hwi : ∀ R : It → Hp → Prop, R (Itt K a) Hc → wi σ H0 R) (G : Sg B H N Hc) (ha : SqT K N a vs0) (hp : Pr R N xs vs0) (keep : α → Bool) (f : α → β) (hlen : xs.length ≤ 10000)
    (hs : ∀ x v N' H', x ∈ xs → R x v N → Ex N N' → Sg B H N' H' → LcT S g tt te own σ N' H' v (keep x) (f x)) (hq : ∀ D N' H', Ex N N' → Sg B H N' H' → (∃ vs, N' D = some (.lst vs) ∧ Pr S N' ((xs.filter keep).map f) vs) → Q (.ref D) H') : tLc wi g tt te own σ H0 Q := by
  refine hwi _ fun D hD => ?_
  obtain ⟨f1, f2⟩ := G.free hD
  refine lc_tup (K := K) (a := a) (xs := vs0) (fun i H' => LcP S B H N D (((xs.take i).filter keep).map f) H') ⟨N, Ex.refl _, G.mut f1 f2, f1, f2, [], upd_same, .nil⟩
    (fun i H' _ ⟨N', e, G', _⟩ => ex_t (e.trans G'.eH) ha) (fun i v H' hi p => ?_) (fun H' p => ?_)
  · obtain ⟨x, hx, r⟩ := hp.get' hi
    refine lcp_turn mS ?_ p (fun N' e G' => hs x v N' H' (List.mem_of_getElem? hx) r e G') fun H2 p2 => ?_
    · rw [List.length_map]
      have q1 := List.length_filter_le keep (xs.take i)
      rw [List.length_take] at q1
      omega
    · show LcP S B H N D (((xs.take (i + 1)).filter keep).map f) H2
      rw [filt_take keep f hx]
      exact p2
  · have p2 : LcP S B H N D (((xs.take vs0.length).filter keep).map f) H' := p
    rw [← hp.len, List.take_length] at p2
    exact lcp_ends p2 mS hq
/-- the list new: what follows told of its place -/
theorem lc_LRd {Qd : Addr → Hp → Prop} (mS : Mono S) (G : Sg B H N Hc) (ha : SqL K N a vs0) (hp : Pr R N xs vs0) (keep : α → Bool) (f : α → β) (hlen : xs.length ≤ 10000)
    (hs : ∀ x v N' H', x ∈ xs → R x v N → Ex N N' → Sg B H N' H' → LcT S g tt te own σ N' H' v (keep x) (f x)) (hq : ∀ D N' H', Ex N N' → Sg B H N' H' → LR K S ((xs.filter keep).map f) (.ref D) N' → Qd D H') :
    ∀ D, Hc D = none → ∃ W : Nat → Nat → Hp → Prop, (∃ m, W 0 m (upd Hc D (.lst []))) ∧ ∀ i m H, W i m H →
      ((Itl K a).stop i H ∧ Qd D H) ∨ ((Itl K a).go i H ∧ ∃ Nx : Hp → Prop, (∀ H', Nx H' → ∃ m', m' < m ∧ W (i + 1) m' H') ∧ ∀ x H', (Itl K a).yld i H x H' → g x (wipe σ own) H' fun σ2 H2 => wipe σ2 own = wipe σ own ∧ tt σ2 H2 fun b H3 =>
        if b = true then te σ2 H3 fun y H4 => ∃ acc, H4 D = some (.lst acc) ∧ acc.length < sizeLine ∧ Nx (upd H4 D (.lst (acc ++ [y]))) else Nx H3) :=
  lc_LR (Q := fun v H => match v with | .ref D => Qd D H | _ => False) mS G ha hp keep f hlen hs fun v N' H' e G' r => by
    obtain ⟨D, vs, rfl, _⟩ := id r
    exact hq D N' H' e G' r
end
end
end NL
set_option Elab.async false
set_option linter.all false
set_option maxRecDepth 100000
set_option maxHeartbeats 4000000
namespace NL
open PySem PySem.Spec PyProof.Rows L2
open Evl (Ex ex_l ex_t)
abbrev Tk := NLM.Tk Str
theorem ite2' {b : Bool} {A B : Prop} (h1 : b = true → A) (h2 : b = false → B) : if b = true then A else B := by
  cases b with
  | true => exact h1 rfl
  | false => exact h2 rfl
theorem ited {c : Prop} [Decidable c] {A B : Prop} (h1 : c → A) (h2 : ¬ c → B) : if decide c = true then A else B := ite2' (fun h => h1 (of_decide_eq_true h)) (fun h => h2 (of_decide_eq_false h))
theorem szs {l : List V} (h : l.length ≤ 10) : l.length ≤ sizeLine := Evl.sz_of (Nat.le_trans h (by decide))
theorem sz0 : ([] : List V).length ≤ sizeLine := szs (by simp)
theorem sz1 {a : V} : [a].length ≤ sizeLine := szs (by simp)
theorem sz2 {a b : V} : [a, b].length ≤ sizeLine := szs (by simp)
theorem sz3 {a b c : V} : [a, b, c].length ≤ sizeLine := szs (by simp)
theorem filtT {α : Type} (l : List α) : (l.filter fun _ => true) = l := List.filter_eq_self.mpr fun _ _ => rfl
theorem sum_bd {b : Int} : ∀ l : List Int, (∀ x ∈ l, 0 ≤ x ∧ x ≤ b) → 0 ≤ l.sum ∧ l.sum ≤ (l.length : Int) * b
  | [], _ => by simp
  | a :: l, h => by
    have h1 := h a List.mem_cons_self
    have h2 := sum_bd l fun x hx => h x (List.mem_cons_of_mem _ hx)
    rw [List.sum_cons, List.length_cons, Int.natCast_add, Int.add_mul, Int.natCast_one, Int.one_mul]
    omega
/-! ### tasks and systems in the heap -/
section
variable (K : PySem.W.Frag) (CT CS : Addr)
def rT : Rl Tk := fun T v H => ∃ p dx fs kv wv, v = .ref p ∧ H p = some (.ins CT dx fs) ∧ fs.lookup ("name" : Str) = some (.str T.name) ∧ fs.lookup ("kinds" : Str) = some kv ∧ fs.lookup ("ways" : Str) = some wv ∧
  fs.lookup ("kind_number" : Str) = none ∧ fs.lookup ("ways_from" : Str) = none ∧ TR K (rK3 K) T.kinds kv H ∧ TR K (rW3 K) T.ways wv H
def rSy : Rl (List Tk × List Int) := fun s v H => ∃ p dx fs tv bv, v = .ref p ∧ H p = some (.ins CS dx fs) ∧ fs.lookup ("tasks" : Str) = some tv ∧ fs.lookup ("table" : Str) = some bv ∧ TR K (rT K CT) s.1 tv H ∧ TI K s.2 bv H
/-- name, kinds, ways -/
def rSpec : Rl (Str × List K3 × List W3) := fun s v H => ∃ a kv wv, v = .ref a ∧ SqT K H a [.str s.1, kv, wv] ∧ LR K (rK3 K) s.2.1 kv H ∧ LR K (rW3 K) s.2.2 wv H
def rSt : Rl (Option (Nat × Int)) := fun st v H => match st with
  | none => v = .non
  | some (j, d) => ∃ a, v = .ref a ∧ SqT K H a [.int (j : Int), .int d]
/-- a list in the heap H (it may still grow) whose items stay -/
def LRh {α : Type} (R : Rl α) (xs : List α) (v : V) (B H : Hp) : Prop := ∃ a vs, v = .ref a ∧ SqL K H a vs ∧ Pr R B xs vs
end
section
variable {K : PySem.W.Frag} {CT CS : Addr}
theorem mono_T : Mono (rT K CT) := fun _ _ _ _ e ⟨p, dx, fs, kv, wv, h1, h2, h3, h4, h5, h6, h7, h8, h9⟩ => ⟨p, dx, fs, kv, wv, h1, e _ _ h2, h3, h4, h5, h6, h7, mono_TR mono_K3 _ _ _ _ e h8, mono_TR mono_W3 _ _ _ _ e h9⟩
theorem mono_Sy : Mono (rSy K CT CS) := fun _ _ _ _ e ⟨p, dx, fs, kv, wv, h1, h2, h3, h4, h8, h9⟩ => ⟨p, dx, fs, kv, wv, h1, e _ _ h2, h3, h4, mono_TR mono_T _ _ _ _ e h8, mono_TI _ _ _ _ e h9⟩
theorem mono_Spec : Mono (rSpec K) := fun _ _ _ _ e ⟨a, kv, wv, h1, h2, h3, h4⟩ => ⟨a, kv, wv, h1, ex_t e h2, mono_LR mono_K3 _ _ _ _ e h3, mono_LR mono_W3 _ _ _ _ e h4⟩
theorem mono_St : Mono (rSt K) := fun st v H H' e h => by
  cases st with
  | none => exact h
  | some p =>
    obtain ⟨a, h1, h2⟩ := h
    exact ⟨a, h1, ex_t e h2⟩
theorem LR.h {α : Type} {R : Rl α} {xs : List α} {v : V} {B H : Hp} (e : Ex B H) (h : LR K R xs v B) : LRh K R xs v B H := by
  obtain ⟨a, vs, h1, h2, h3⟩ := h
  exact ⟨a, vs, h1, ex_l e h2, h3⟩
end
/-- the deadlines 1 -/
def eagK (ks : List K3) : List K3 := ks.map fun k => (k.1, k.2.1, 1)
def eagT (T : Tk) : Tk := ⟨T.name, eagK T.kinds, T.ways⟩
/-! ### what is asked of names, kinds, ways, tables -/
def nameChars : Str := "abcdefghijklmnopqrstuvwxyz0123456789"
def NameOk (z : Str) : Prop := 1 ≤ z.length ∧ z.length ≤ 12 ∧ ∀ c ∈ z.cps.toList, c ∈ nameChars.cps.toList
structure KindsOk (ks : List K3) : Prop where
  ne : 1 ≤ ks.length
  le : ks.length ≤ 8
  nd : (ks.map (·.1)).Nodup
  nm : ∀ k ∈ ks, NameOk k.1
  c : ∀ k ∈ ks, 1 ≤ k.2.1 ∧ k.2.1 ≤ 1000
  d : ∀ k ∈ ks, 1 ≤ k.2.2 ∧ k.2.2 ≤ 1000
structure WaysOk (ks : List K3) (ws : List W3) : Prop where
  le : ws.length ≤ 16
  s : ∀ w ∈ ws, w.1 ∈ ks.map (·.1)
  t : ∀ w ∈ ws, w.2.1 ∈ ks.map (·.1)
  d : ∀ w ∈ ws, 1 ≤ w.2.2 ∧ w.2.2 ≤ 1000
structure OkT (T : Tk) : Prop where
  n : NameOk T.name
  k : KindsOk T.kinds
  w : WaysOk T.kinds T.ways
theorem OkT.wf {T : Tk} (h : OkT T) (h1 : ∀ k ∈ T.kinds, k.2.2 = 1) : NLM.Wf T where
  ne := fun e => by
    have := h.k.ne
    rw [e] at this
    exact absurd this (by decide)
  nd := h.k.nd
  cost := fun k hk => (by have := h.k.c k hk; omega)
  one := h1
  dist := fun w hw => (h.w.d w hw).1
  src := h.w.s
  tgt := h.w.t
theorem OkT.eag {T : Tk} (h : OkT T) : OkT (eagT T) := by
  have hn : (eagK T.kinds).map (·.1) = T.kinds.map (·.1) := by rw [eagK, List.map_map]; rfl
  have hl : (eagK T.kinds).length = T.kinds.length := List.length_map _
  refine ⟨h.n, ⟨by show 1 ≤ (eagK T.kinds).length; rw [hl]; exact h.k.ne, by show (eagK T.kinds).length ≤ 8; rw [hl]; exact h.k.le, by show ((eagK T.kinds).map (·.1)).Nodup; rw [hn]; exact h.k.nd, ?_, ?_, ?_⟩, ⟨h.w.le, ?_, ?_, h.w.d⟩⟩
  · intro k hk
    obtain ⟨k', hk', rfl⟩ := List.mem_map.mp hk
    exact h.k.nm k' hk'
  · intro k hk
    obtain ⟨k', hk', rfl⟩ := List.mem_map.mp hk
    exact h.k.c k' hk'
  · intro k hk
    obtain ⟨k', hk', rfl⟩ := List.mem_map.mp hk
    exact ⟨Int.le_refl 1, (by decide : (1 : Int) ≤ 1000)⟩
  · intro w hw
    show w.1 ∈ (eagK T.kinds).map (·.1)
    rw [hn]
    exact h.w.s w hw
  · intro w hw
    show w.2.1 ∈ (eagK T.kinds).map (·.1)
    rw [hn]
    exact h.w.t w hw
theorem eag_one (T : Tk) : ∀ k ∈ (eagT T).kinds, k.2.2 = 1 := fun k hk => by
  obtain ⟨k', hk', rfl⟩ := List.mem_map.mp hk
  rfl
structure TabOk (tb : List Int) : Prop where
  ne : 1 ≤ tb.length
  le : tb.length ≤ 1001
  c : ∀ x ∈ tb, 0 ≤ x ∧ x ≤ 1000000
structure SysOk (Ts : List Tk) (tb : List Int) : Prop where
  t : ∀ T ∈ Ts, OkT T
  nd : (Ts.map (·.name)).Nodup
  le : Ts.length ≤ 6
  b : TabOk tb
theorem SysOk.eag {Ts : List Tk} {tb : List Int} (h : SysOk Ts tb) : SysOk (Ts.map eagT) tb := by
  refine ⟨?_, ?_, by rw [List.length_map]; exact h.le, h.b⟩
  · intro T hT
    obtain ⟨T', hT', rfl⟩ := List.mem_map.mp hT
    exact (h.t T' hT').eag
  · rw [List.map_map]
    exact h.nd
theorem sys_one (Ts : List Tk) : ∀ T ∈ Ts.map eagT, ∀ k ∈ T.kinds, k.2.2 = 1 := fun T hT => by
  obtain ⟨T', hT', rfl⟩ := List.mem_map.mp hT
  exact eag_one T'
/-! ### what a def hands back -/
def RetR {α : Type} (R : Rl α) (x : α) (B H : Hp) (Q : VK) : Prop := ∀ v N H', Sg B H N H' → R x v N → Q v H'
def RetV (v : V) (H : Hp) (Q : VK) : Prop := ∀ H', Ex H H' → Q v H'
theorem Sg.ext {B H N Hc H' : Hp} (G : Sg B H N Hc) (e : Ex Hc H') : Sg B H N H' := ⟨G.eN, G.eH.trans e, G.e0.trans e, G.nw⟩
theorem RetR.go {α : Type} {R : Rl α} {x : α} {B H N H' : Hp} {Q : VK} {v : V} (k : RetR R x B H Q) (G : Sg B H N H') (r : R x v N) : Q v H' := k v N H' G r
theorem RetV.go {v : V} {H H' : Hp} {Q : VK} (k : RetV v H Q) (e : Ex H H') : Q v H' := k H' e
/-- an __init__ at p: what stays, the object's fields -/
def RetI (C p : Addr) (W : List (Str × V) → Hp → Prop) (B H : Hp) (Q : VK) : Prop := ∀ N H' dx fs, Ex B N → Ex N H' → (∀ b o, b ≠ p → H b = some o → H' b = some o) → (∀ a o, N a = some o → B a = some o ∨ H a = none) → N p = none → H' p = some (.ins C dx fs) → W fs N → Q .non H'
/-- within an __init__ at p -/
structure Ig (C p dx : Addr) (fs : List (Str × V)) (B H N Hc : Hp) : Prop where
  eN : Ex B N
  eH : Ex N Hc
  e0 : ∀ b o, b ≠ p → H b = some o → Hc b = some o
  nw : ∀ a o, N a = some o → B a = some o ∨ H a = none
  np : N p = none
  hp : Hc p = some (.ins C dx fs)
section
variable {C p dx : Addr} {fs : List (Str × V)} {B H N Hc N' H' : Hp}
theorem Ig.start (e : Ex B H) (hB : B p = none) (hp : H p = some (.ins C dx fs)) : Ig C p dx fs B H B H := ⟨Ex.refl _, e, fun _ _ _ h => h, fun _ _ h => .inl h, hB, hp⟩
theorem Ig.sg (I : Ig C p dx fs B H N Hc) (G : Sg N Hc N' H') : Ig C p dx fs B H N' H' := ⟨I.eN.trans G.eN, G.eH, fun b o hb h => G.e0 b o (I.e0 b o hb h), fun a o h => (by
  rcases G.nw a o h with z | z
  · exact I.nw a o z
  · cases q : H a with
    | none => exact .inr rfl
    | some u =>
      by_cases e : a = p
      · subst e
        rw [I.hp] at z
        cases z
      · rw [I.e0 a u e q] at z
        cases z), (G.away I.np I.hp).1, (G.away I.np I.hp).2⟩
theorem Ig.put (I : Ig C p dx fs B H N Hc) (fs' : List (Str × V)) : Ig C p dx fs' B H N (upd Hc p (.ins C dx fs')) := ⟨I.eN, fun b o h => (by
  rw [upd_ne (ne_of_none h I.np)]
  exact I.eH b o h), fun b o hb h => (by
  rw [upd_ne hb]
  exact I.e0 b o hb h), I.nw, I.np, upd_same⟩
theorem Ig.ret (I : Ig C p dx fs B H N Hc) {W : List (Str × V) → Hp → Prop} {Q : VK} (q : RetI C p W B H Q) (w : W fs N) : Q .non Hc := q N Hc dx fs I.eN I.eH I.e0 I.nw I.np I.hp w
end
/-- an object that was made -/
theorem Sg.made {B H N1 H1 N H' : Hp} {x dx C dx' : Addr} {fs : List (Str × V)} (G : Sg B H N1 H1) (hx : H1 x = none) (hdx : H1 dx = none) (hne : dx ≠ x) (eN : Ex N1 N) (eH : Ex N H')
    (hk : ∀ b o, b ≠ x → (upd (upd H1 dx (.own x)) x (.ins C dx [])) b = some o → H' b = some o) (nw : ∀ a o, N a = some o → N1 a = some o ∨ (upd (upd H1 dx (.own x)) x (.ins C dx [])) a = none) (hNp : N x = none) (hp : H' x = some (.ins C dx' fs)) : Sg B H (upd N x (.ins C dx' fs)) H' := by
  have e2 : Ex H1 (upd (upd H1 dx (.own x)) x (.ins C dx [])) := (Ex.new hdx).trans (Ex.new ((upd_ne hne.symm).trans hx))
  refine ⟨(G.eN.trans eN).trans (ex_upd hNp), fun b o h => ?_, fun b o h => ?_, fun a o h => ?_⟩
  · by_cases e : b = x
    · subst e
      rw [upd_same] at h
      rw [hp, h]
    · rw [upd_ne e] at h
      exact eH b o h
  · have h1 := G.e0 b o h
    exact hk b o (ne_of_none h1 hx) (e2 b o h1)
  · by_cases e : a = x
    · subst e
      exact .inr (G.free hx).2
    · rw [upd_ne e] at h
      rcases nw a o h with z | z
      · exact G.nw a o z
      · exact .inr (Evl.fresh_back (G.e0.trans e2) z)
theorem Ig.mut {C p dx l : Addr} {fs : List (Str × V)} {B H N Hc : Hp} {o : HO} (I : Ig C p dx fs B H N Hc) (h1 : N l = none) (h2 : H l = none) (hpl : p ≠ l) : Ig C p dx fs B H N (upd Hc l o) := ⟨I.eN, fun b q h => (by
  rw [upd_ne (ne_of_none h h1)]
  exact I.eH b q h), fun b q hb h => (by
  rw [upd_ne (ne_of_none h h2)]
  exact I.e0 b q hb h), I.nw, I.np, (upd_ne hpl).trans I.hp⟩
theorem first_at {x : Int} : ∀ {l : List Int}, x ∈ l → ∃ j, l[j]? = some x ∧ ∀ (m : Nat) (y : Int), m < j → l[m]? = some y → y ≠ x
  | a :: l, h => by
    by_cases c : a = x
    · exact ⟨0, by rw [c]; rfl, fun m y hm => absurd hm (Nat.not_lt_zero m)⟩
    · rcases List.mem_cons.mp h with rfl | h
      · exact absurd rfl c
      · obtain ⟨j, h1, h2⟩ := first_at h
        refine ⟨j + 1, h1, fun m y hm hy => ?_⟩
        cases m with
        | zero => cases hy; exact c
        | succ m => exact h2 m y (Nat.lt_of_succ_lt_succ hm) hy
theorem ex_made {H1 : Hp} {x dx C : Addr} (hx : H1 x = none) (hdx : H1 dx = none) (hne : dx ≠ x) : Ex H1 (upd (upd H1 dx (.own x)) x (.ins C dx [])) := (Ex.new hdx).trans (Ex.new ((upd_ne hne.symm).trans hx))
theorem rg_ok {P h : Nat} (h1 : 1 ≤ P) (h2 : P ≤ 1001) (h3 : h ≤ 100) : RgC (P : Int) ((h : Int) + 1) (P : Int) (Builtin.Range.rangeSize (P : Int) ((h : Int) + 1) (P : Int)).toNat := by
  have hs : 0 ≤ Builtin.Range.rangeSize (P : Int) ((h : Int) + 1) (P : Int) ∧ Builtin.Range.rangeSize (P : Int) ((h : Int) + 1) (P : Int) ≤ 200 := by
    unfold Builtin.Range.rangeSize
    rw [if_pos (show (P : Int) > 0 by omega)]
    by_cases c : (P : Int) < (h : Int) + 1
    · rw [if_pos c]
      have q1 : 0 ≤ ((h : Int) + 1 - (P : Int) - 1) / (P : Int) := Int.ediv_nonneg (by omega) (by omega)
      have q2 : ((h : Int) + 1 - (P : Int) - 1) / (P : Int) ≤ (h : Int) + 1 - (P : Int) - 1 := Int.ediv_le_self _ (by omega)
      omega
    · rw [if_neg c]
      omega
  refine ⟨by omega, by omega, ?_, (Int.toNat_of_nonneg hs.1).symm⟩
  unfold Builtin.Range.small
  rw [if_pos (show (P : Int) > 0 by omega)]
  generalize Builtin.Range.rangeSize (P : Int) ((h : Int) + 1) (P : Int) = r at hs
  simp only [Builtin.Range.rangeFitsLong, Bool.and_eq_true, Bool.or_eq_true, decide_eq_true_eq, beq_iff_eq]
  omega
def rLong : Rl Tk := fun T v _ => ∃ d : Nat, v = .int (d : Int) ∧ d ≤ 1000 ∧ ∀ w ∈ T.ways, w.2.2 ≤ (d : Int)
theorem mono_Long : Mono rLong := fun _ _ _ _ _ h => h
theorem pr_long {N : Hp} : ∀ {Ts : List Tk} {vs : List V}, Pr rLong N Ts vs → ∃ ns : List Int, vs = ns.map V.int ∧ (∀ T ∈ Ts, ∃ m ∈ ns, ∀ w ∈ T.ways, w.2.2 ≤ m) ∧ ∀ m ∈ ns, ∃ d : Nat, m = (d : Int) ∧ d ≤ 1000
  | _, _, .nil => ⟨[], rfl, fun _ h => (by cases h), fun _ h => (by cases h)⟩
  | _, _, .cons r t => by
    obtain ⟨d, rfl, h1, h2⟩ := r
    obtain ⟨ns, rfl, h3, h4⟩ := pr_long t
    refine ⟨(d : Int) :: ns, rfl, fun T hT => ?_, fun m hm => ?_⟩
    · rcases List.mem_cons.mp hT with rfl | hT
      · exact ⟨_, List.mem_cons_self, h2⟩
      · obtain ⟨m, q1, q2⟩ := h3 T hT
        exact ⟨m, List.mem_cons_of_mem _ q1, q2⟩
    · rcases List.mem_cons.mp hm with rfl | hm
      · exact ⟨d, rfl, h1⟩
      · exact h4 m hm
theorem itend {c : Prop} [Decidable c] {A B : Prop} (h1 : ¬ c → A) (h2 : c → B) : if (!decide c) = true then A else B := by
  by_cases h : c
  · rw [decide_eq_true h, if_neg (by decide)]
    exact h2 h
  · rw [decide_eq_false h, if_pos (by decide)]
    exact h1 h
theorem flat_strs (ns : List Str) : (ns.map V.str).all flatV = true := List.all_eq_true.mpr fun v hv => by
  obtain ⟨_, _, rfl⟩ := List.mem_map.mp hv
  rfl
theorem flat_ints (ns : List Int) : (ns.map V.int).all flatV = true := List.all_eq_true.mpr fun v hv => by
  obtain ⟨_, _, rfl⟩ := List.mem_map.mp hv
  rfl
theorem inV_strs {z : Str} {ns : List Str} (h : z ∈ ns) : inV (.str z) (ns.map V.str) = true := List.any_eq_true.mpr ⟨.str z, List.mem_map_of_mem h, beq_self_eq_true z⟩
theorem inV_not {z : Str} {ns : List Str} (h : z ∉ ns) : inV (.str z) (ns.map V.str) = false := by
  cases q : inV (.str z) (ns.map V.str) with
  | false => rfl
  | true =>
    obtain ⟨v, hv, e⟩ := List.any_eq_true.mp q
    obtain ⟨y, hy, rfl⟩ := List.mem_map.mp hv
    have : y = z := eq_of_beq e
    exact absurd (this ▸ hy) h
theorem all_trues {α : Type} (l : List α) : (l.map fun _ => true).all id = true := List.all_eq_true.mpr fun b hb => by
  obtain ⟨_, _, rfl⟩ := List.mem_map.mp hb
  rfl
theorem putF_lt {f : Str} {v : V} {n : Nat} : ∀ {fs : List (Str × V)}, fs.length < n → (putF f v fs).length < n + 1
  | [], h => by
    show 1 < n + 1
    simp at h
    omega
  | (g, u) :: fs, h => by
    unfold putF
    by_cases c : g = f
    · first
      | rw [if_pos c, List.length_cons]; rw [List.length_cons] at h; omega
      | simp [c]; rw [List.length_cons] at h; omega
    · first
      | rw [if_neg c, List.length_cons]
        rw [List.length_cons] at h
        have := putF_lt (f := f) (v := v) (n := n - 1) (fs := fs) (by omega)
        omega
      | simp [c]
theorem fl1 {f1 : Str} {v1 : V} : (putF f1 v1 []).length < 1000 := Nat.lt_of_lt_of_le (putF_lt (n := 1) (by decide)) (by decide)
theorem fl2 {f1 f2 : Str} {v1 v2 : V} : (putF f2 v2 (putF f1 v1 [])).length < 1000 := Nat.lt_of_lt_of_le (putF_lt (putF_lt (n := 1) (by decide))) (by decide)
theorem fl3 {f1 f2 f3 : Str} {v1 v2 v3 : V} : (putF f3 v3 (putF f2 v2 (putF f1 v1 []))).length < 1000 := Nat.lt_of_lt_of_le (putF_lt (putF_lt (putF_lt (n := 1) (by decide)))) (by decide)
/-! ### the promises -/
section
variable (K : PySem.W.Frag) (CT CS CB : Addr)
def sp_own_work : Sp := fun vs H Q _ => ∃ B kv k n, vs = [kv, .int n] ∧ Ex B H ∧ rK3 K k kv B ∧ RetV (.int (NLM.ownW k n)) H Q
def sp_best_continuation : Sp := fun vs H Q _ => ∃ B tv T nm n fv m, vs = [tv, .str nm, .int ((n : Nat) : Int), fv] ∧ Ex B H ∧ rT K CT T tv B ∧ OkT T ∧ nm ∈ T.kinds.map (·.1) ∧ LRh K (LI K) (NLM.rowsN T m) fv B H ∧ n ≤ m ∧ m ≤ 1000 ∧
  RetV (.int (NLM.bestC T nm n (NLM.rowsN T n))) H Q
def sp_rows : Sp := fun vs H Q _ => ∃ B tv T n, vs = [tv, .int ((n : Nat) : Int)] ∧ Ex B H ∧ rT K CT T tv B ∧ OkT T ∧ n ≤ 100 ∧ RetR (LR K (LI K)) (NLM.rowsN T (n + 1)) B H Q
def sp_demands : Sp := fun vs H Q _ => ∃ B tv T n, vs = [tv, .int ((n : Nat) : Int)] ∧ Ex B H ∧ rT K CT T tv B ∧ OkT T ∧ n ≤ 100 ∧ RetR (LI K) ((List.range (n + 1)).map fun i => NLM.demand T i) B H Q
def sp_system_demands : Sp := fun vs H Q _ => ∃ B sv Ts tb n, vs = [sv, .int ((n : Nat) : Int)] ∧ Ex B H ∧ rSy K CT CS (Ts, tb) sv B ∧ SysOk Ts tb ∧ n ≤ 100 ∧ RetR (LI K) ((List.range (n + 1)).map fun i => NLM.total Ts i) B H Q
def sp_best_step : Sp := fun vs H Q _ => ∃ B tv T nm n fv m, vs = [tv, .str nm, .int ((n : Nat) : Int), fv] ∧ Ex B H ∧ rT K CT T tv B ∧ OkT T ∧ nm ∈ T.kinds.map (·.1) ∧ LR K (LI K) (NLM.rowsN T m) fv B ∧ n ≤ m ∧ m ≤ 1000 ∧
  ∀ st, NLM.StepOk T nm n (NLM.bestC T nm n (NLM.rowsN T n)) st → RetR (rSt K) st B H Q
def sp_heaviest : Sp := fun vs H Q _ => ∃ B tv T n, vs = [tv, .int ((n : Nat) : Int)] ∧ Ex B H ∧ rT K CT T tv B ∧ OkT T ∧ (∀ k ∈ T.kinds, k.2.2 = 1) ∧ 1 ≤ n ∧ n ≤ 100 ∧ ∀ L, NLM.HeavyDone T n L → L.length ≤ 1000 → RetR (LR K (rRel K)) L B H Q
def sp_greatest_deadline : Sp := fun vs H Q _ => ∃ B sv Ts tb, vs = [sv] ∧ Ex B H ∧ rSy K CT CS (Ts, tb) sv B ∧ SysOk Ts tb ∧ (∀ T ∈ Ts, ∀ k ∈ T.kinds, k.2.2 = 1) ∧ Ts ≠ [] ∧ RetV (.int 1) H Q
def sp_greatest_distance : Sp := fun vs H Q _ => ∃ B sv Ts tb, vs = [sv] ∧ Ex B H ∧ rSy K CT CS (Ts, tb) sv B ∧ SysOk Ts tb ∧ ∀ cnt : Nat, cnt ≤ 1000 → (∀ T ∈ Ts, ∀ w ∈ T.ways, w.2.2 ≤ (cnt : Int)) → RetV (.int (cnt : Int)) H Q
def sp_row_growth : Sp := fun vs H Q _ => ∃ B fv, ∃ T : Tk, ∃ M m cnt q, vs = [fv, .int ((m : Nat) : Int), .int ((cnt : Nat) : Int), .int ((q : Nat) : Int)] ∧ Ex B H ∧ LR K (LI K) (NLM.rowsN T M) fv B ∧ m < M ∧ cnt + q ≤ m ∧ M ≤ 1000 ∧ ∀ g, NLM.GrowsBy T m cnt q g → RetV (.int g) H Q
/-- the rows come round by q -/
def CR (Ts : List Tk) (tb : List Int) (h q : Nat) : Prop := ∃ (k cnt : Nat) (gs : List Int), 1 ≤ k ∧ q = tb.length * k ∧ 1 + cnt + tb.length + q ≤ h ∧ (∀ T ∈ Ts, ∀ w ∈ T.ways, w.2.2 ≤ (cnt : Int)) ∧ gs.length = Ts.length ∧
  (∀ (i : Nat) (T : Tk) (g : Int), Ts[i]? = some T → gs[i]? = some g → NLM.GrowsBy T (h - tb.length) cnt q g) ∧ gs.sum ≤ (k : Int) * tb.sum
def sp_come_round : Sp := fun vs H Q _ => ∃ B sv Ts tb fv q h, vs = [sv, fv, .int ((q : Nat) : Int), .int ((h : Nat) : Int)] ∧ Ex B H ∧ rSy K CT CS (Ts, tb) sv B ∧ SysOk Ts tb ∧ (∀ T ∈ Ts, ∀ k ∈ T.kinds, k.2.2 = 1) ∧ Ts ≠ [] ∧
  LR K (LR K (LI K)) (Ts.map fun T => NLM.rowsN T (h + 1)) fv B ∧ h ≤ 100 ∧ ∀ b, (b = true → CR Ts tb h q) → RetV (.bl b) H Q
def sp_rounds : Sp := fun vs H Q _ => ∃ B sv Ts tb h, vs = [sv, .int ((h : Nat) : Int)] ∧ Ex B H ∧ rSy K CT CS (Ts, tb) sv B ∧ SysOk Ts tb ∧ (∀ T ∈ Ts, ∀ k ∈ T.kinds, k.2.2 = 1) ∧ Ts ≠ [] ∧ h ≤ 100 ∧
  ∀ v, (v = .non ∨ ∃ q : Nat, v = .int (q : Int) ∧ CR Ts tb h q) → RetV v H Q
def sp_supply_of_first : Sp := fun vs H Q _ => ∃ B tv tb n, vs = [tv, .int ((n : Nat) : Int)] ∧ Ex B H ∧ TI K tb tv B ∧ TabOk tb ∧ RetV (.int (NLM.sof tb n)) H Q
def sp_supply : Sp := fun vs H Q _ => ∃ B tv tb s e, vs = [tv, .int ((s : Nat) : Int), .int ((e : Nat) : Int)] ∧ Ex B H ∧ TI K tb tv B ∧ TabOk tb ∧ s < e ∧ RetV (.int (NLM.sof tb e - NLM.sof tb s)) H Q
def sp_is_name : Sp := fun vs H Q _ => ∃ z, vs = [.str z] ∧ NameOk z ∧ RetV (.bl true) H Q
def sp_are_kinds : Sp := fun vs H Q _ => ∃ B kv ks, vs = [kv] ∧ Ex B H ∧ LR K (rK3 K) ks kv B ∧ KindsOk ks ∧ RetV (.bl true) H Q
def sp_are_ways : Sp := fun vs H Q _ => ∃ B wv nv ks ws, vs = [wv, nv] ∧ Ex B H ∧ (LR K (rW3 K) ws wv B ∨ TR K (rW3 K) ws wv B) ∧ LS K (ks.map fun k : K3 => k.1) nv B ∧ WaysOk ks ws ∧ RetV (.bl true) H Q
def sp_is_table : Sp := fun vs H Q _ => ∃ B bv tb, vs = [bv] ∧ Ex B H ∧ (LI K tb bv B ∨ TI K tb bv B) ∧ TabOk tb ∧ RetV (.bl true) H Q
def sp_Task_init : Sp := fun vs H Q _ => ∃ B p dx T kv wv, vs = [.ref p, .str T.name, kv, wv] ∧ Ex B H ∧ B p = none ∧ H p = some (.ins CT dx []) ∧ LR K (rK3 K) T.kinds kv B ∧ (LR K (rW3 K) T.ways wv B ∨ TR K (rW3 K) T.ways wv B) ∧ OkT T ∧
  RetI CT p (fun fs N => ∃ kv wv, fs.lookup ("name" : Str) = some (.str T.name) ∧ fs.lookup ("kinds" : Str) = some kv ∧ fs.lookup ("ways" : Str) = some wv ∧ fs.lookup ("kind_number" : Str) = none ∧ fs.lookup ("ways_from" : Str) = none ∧ TR K (rK3 K) T.kinds kv N ∧ TR K (rW3 K) T.ways wv N) B H Q
def sp_Task_longest_distance : Sp := fun vs H Q _ => ∃ B tv T, vs = [tv] ∧ Ex B H ∧ rT K CT T tv B ∧ OkT T ∧ ∀ d : Nat, d ≤ 1000 → (∀ w ∈ T.ways, w.2.2 ≤ (d : Int)) → RetV (.int (d : Int)) H Q
def sp_Task_latest_deadline : Sp := fun vs H Q _ => ∃ B tv T, vs = [tv] ∧ Ex B H ∧ rT K CT T tv B ∧ OkT T ∧ (∀ k ∈ T.kinds, k.2.2 = 1) ∧ RetV (.int 1) H Q
def sp_Task_kind_number : Sp := fun vs H Q _ => ∃ B tv T nm, vs = [tv, .str nm] ∧ Ex B H ∧ rT K CT T tv B ∧ nm ∈ T.kinds.map (·.1) ∧ RetV (.int ((NLM.kn T.kinds nm : Nat) : Int)) H Q
def sp_Task_ways_from : Sp := fun vs H Q _ => ∃ B tv T nm, vs = [tv, .str nm] ∧ Ex B H ∧ rT K CT T tv B ∧ OkT T ∧ nm ∈ T.kinds.map (·.1) ∧ RetR (LR K (rSI K)) (NLM.waysFrom T nm) B H Q
def sp_System_init : Sp := fun vs H Q _ => ∃ B p dx Ts tb tv bv, vs = [.ref p, tv, bv] ∧ Ex B H ∧ B p = none ∧ H p = some (.ins CS dx []) ∧ LR K (rT K CT) Ts tv B ∧ (LI K tb bv B ∨ TI K tb bv B) ∧ SysOk Ts tb ∧
  RetI CS p (fun fs N => ∃ tv bv, fs.lookup ("tasks" : Str) = some tv ∧ fs.lookup ("table" : Str) = some bv ∧ TR K (rT K CT) Ts tv N ∧ TI K tb bv N) B H Q
def sp_Backlog_init : Sp := fun vs H Q _ => ∃ B p dx w i s rv, vs = [.ref p, .int w, .int i, .int s, rv] ∧ Ex B H ∧ B p = none ∧ H p = some (.ins CB dx []) ∧
  RetI CB p (fun fs _ => fs.lookup ("work" : Str) = some (.int w) ∧ fs.lookup ("instant" : Str) = some (.int i) ∧ fs.lookup ("start" : Str) = some (.int s) ∧ fs.lookup ("releases" : Str) = some rv) B H Q
def sp_eager_task : Sp := fun vs H Q _ => ∃ B tv T, vs = [tv] ∧ Ex B H ∧ rT K CT T tv B ∧ OkT T ∧ RetR (rT K CT) (eagT T) B H Q
def sp_eager : Sp := fun vs H Q _ => ∃ B sv Ts tb, vs = [sv] ∧ Ex B H ∧ rSy K CT CS (Ts, tb) sv B ∧ SysOk Ts tb ∧ RetR (rSy K CT CS) (Ts.map eagT, tb) B H Q
def sp_moved : Sp := fun vs H Q _ => ∃ B rv L s, vs = [rv, .int s] ∧ Ex B H ∧ LR K (rRel K) L rv B ∧ L.length ≤ 1000 ∧ RetR (LR K (rRel K)) (NLM.moved s L) B H Q
end
end NL
set_option Elab.async false
set_option linter.all false
set_option maxRecDepth 100000
set_option maxHeartbeats 4000000
namespace NL
open PySem PySem.Spec PyProof.Rows L2
open Evl (Ex ex_l ex_t sz_of sz_lt)
structure CalKX (P : Program) (w : World) (K : PySem.W.Frag) (mg : Str → Option Value) (base : Heap) (x : Str) (k n : Nat) (ks ps : List Str) (sp : Sp) (f : Addr) (fd : FuncData) : Prop where
  g : mg x = some (.ref f)
  kp : PySem.W.keepIn K (.ref f) = true
  ok : FnOk P w K mg base (L2.CX P w) k f fd ps sp
  kb : KBn K fd ps n ks app2 app2
/-! ### what most_waiting hands back -/
def BackOk (Ts : List Tk) (tb : List Int) (h : Nat) (M : Int) (it st : Nat) (LL : List (List (Int × Str))) : Prop :=
  (∃ q, CR (Ts.map eagT) tb h q) ∧ it ≤ h ∧ 0 ≤ M ∧ (LL.length = Ts.length ∧ ∀ L ∈ LL, L.length ≤ 1000) ∧
  (∀ s e, s < e → e ≤ h → NLM.total (Ts.map eagT) (e - s) - (NLM.sof tb e - NLM.sof tb s) ≤ M) ∧
  ((M = 0 ∧ it = 0 ∧ st = 0 ∧ ∀ L ∈ LL, L = []) ∨
   (0 < M ∧ st < it ∧ NLM.total (Ts.map eagT) (it - st) - (NLM.sof tb it - NLM.sof tb st) = M ∧
     ∀ (i : Nat) (T : Tk) (L : List (Int × Str)), Ts[i]? = some T → LL[i]? = some L → ∃ L0, NLM.HeavyDone (eagT T) (it - st) L0 ∧ L = NLM.moved (st : Int) L0))
def rBack (K : PySem.W.Frag) (CB : Addr) (M : Int) (it st : Nat) (LL : List (List (Int × Str))) (v : V) (H : Hp) : Prop :=
  ∃ p dx fs rv, v = .ref p ∧ H p = some (.ins CB dx fs) ∧ fs.lookup ("work" : Str) = some (.int M) ∧ fs.lookup ("instant" : Str) = some (.int (it : Int)) ∧ fs.lookup ("start" : Str) = some (.int (st : Int)) ∧ fs.lookup ("releases" : Str) = some rv ∧ ∃ la lvs, rv = .ref la ∧ H la = some (.lst lvs) ∧ Pr (LR K (rRel K)) H LL lvs
def rHev (K : PySem.W.Frag) (n : Nat) (s : Int) : Rl Tk := fun T v H => ∃ L0, NLM.HeavyDone (eagT T) n L0 ∧ L0.length ≤ 1000 ∧ LR K (rRel K) (NLM.moved s L0) v H
theorem mono_Hev {K : PySem.W.Frag} {n : Nat} {s : Int} : Mono (rHev K n s) := fun _ _ _ _ e ⟨L0, h1, h0, h2⟩ => ⟨L0, h1, h0, mono_LR mono_Rel _ _ _ _ e h2⟩
theorem pr_hev {K : PySem.W.Frag} {n : Nat} {s : Int} {N : Hp} : ∀ {Ts : List Tk} {vs : List V}, Pr (rHev K n s) N Ts vs → ∃ LL, Pr (LR K (rRel K)) N LL vs ∧ (LL.length = Ts.length ∧ ∀ L ∈ LL, L.length ≤ 1000) ∧ ∀ (i : Nat) (T : Tk) (L : List (Int × Str)), Ts[i]? = some T → LL[i]? = some L → ∃ L0, NLM.HeavyDone (eagT T) n L0 ∧ L = NLM.moved s L0
  | _, _, .nil => ⟨[], .nil, ⟨rfl, fun _ h => (by cases h)⟩, fun _ _ _ h => by simp at h⟩
  | _, _, .cons r t => by
    obtain ⟨L0, h1, h0, h2⟩ := r
    obtain ⟨LL, h3, ⟨h4, h6⟩, h5⟩ := pr_hev t
    refine ⟨NLM.moved s L0 :: LL, .cons h2 h3, ⟨by rw [List.length_cons, h4, List.length_cons], fun L hL => ?_⟩, fun i T L hi hl => ?_⟩
    · rcases List.mem_cons.mp hL with rfl | h
      · unfold NLM.moved
        rw [List.length_map]
        exact h0
      · exact h6 L h
    cases i with
    | zero => cases hi; cases hl; exact ⟨L0, h1, rfl⟩
    | succ i => exact h5 i T L hi hl
def sp_most_waiting (K : PySem.W.Frag) (CT CS CB C : Addr) : Sp := fun vs H Q E => ∃ B sv Ts tb h, vs = [sv, .int ((h : Nat) : Int)] ∧ Ex B H ∧ rSy K CT CS (Ts, tb) sv B ∧ SysOk Ts tb ∧ Ts ≠ [] ∧ h ≤ 100 ∧
  (∀ H' d, Ex H H' → H' d = none → E (.ref C) (some d) (upd H' d (.xd [(("horizon" : Str), .int ((h : Nat) : Int))]))) ∧
  ∀ M it st LL, BackOk Ts tb h M it st LL → ∀ v N H', Sg B H N H' → rBack K CB M it st LL v N → Q v H'
/-! ### the law's helpers -/
abbrev Spc := Str × List K3 × List W3
def Nums (m : Nat) (xs : List Int) : Prop := xs.length = m ∧ ∀ x ∈ xs, 0 ≤ x ∧ x < 1009
theorem Nums.get {m i : Nat} {xs : List Int} (h : Nums m xs) (hi : i < m) : ∃ x, (xs.map V.int)[i]? = some (.int x) ∧ 0 ≤ x ∧ x < 1009 := by
  obtain ⟨h1, h2⟩ := h
  have hl : i < xs.length := by omega
  refine ⟨xs[i], ?_, h2 _ (List.getElem_mem hl)⟩
  rw [List.getElem?_map, List.getElem?_eq_getElem hl] <;> rfl
theorem Nums.at {m : Nat} {xs : List Int} (h : Nums m xs) (i : Nat) (hi : i < m) : (xs.map V.int)[i]? = some (.int (xs.getD i 0)) ∧ 0 ≤ xs.getD i 0 ∧ xs.getD i 0 < 1009 := by
  obtain ⟨h1, h2⟩ := h
  have hl : i < xs.length := by omega
  have e : xs.getD i 0 = xs[i] := by rw [List.getD_eq_getElem?_getD, List.getElem?_eq_getElem hl] <;> rfl
  rw [e, List.getElem?_map, List.getElem?_eq_getElem hl]
  exact ⟨rfl, h2 _ (List.getElem_mem hl)⟩
theorem cut_to (xs : List V) (k : Nat) : cutV xs none (some (k : Int)) = xs.take k := by
  rw [cutV, HT.sIx_nat, HT.sIx_none, List.drop_zero, Nat.sub_zero]
  rcases Nat.le_total k xs.length with h | h
  · rw [Nat.min_eq_left h]
  · rw [Nat.min_eq_right h, List.take_length, List.take_of_length_le h]
def nmOf (c : Nat) (m : Int) (b : Bool) (k : Int) : Str := if b then Txt.mul ⟨#[c]⟩ m ++ (toString k : Str) else (toString k : Str) ++ Txt.mul ⟨#[c]⟩ m
def kxz : Str := "kxzabc"
def nameOf (n k : Int) : Str := nmOf (kxz.cps.toList.getD (n % 6).toNat 0) (n / 6 % 3) (decide (n / 18 % 2 = 0)) k
structure KsOk (ks : List K3) : Prop where
  ne : 1 ≤ ks.length
  le : ks.length ≤ 2
  nd : (ks.map (·.1)).Nodup
  nm : ∀ k ∈ ks, NameOk k.1
  c : ∀ k ∈ ks, 1 ≤ k.2.1 ∧ k.2.1 ≤ 4
  d : ∀ k ∈ ks, 1 ≤ k.2.2 ∧ k.2.2 ≤ 9
structure SpecsOk (ss : List Spc) : Prop where
  ne : 1 ≤ ss.length
  le : ss.length ≤ 2
  nd : (ss.map (·.1)).Nodup
  nm : ∀ s ∈ ss, NameOk s.1
  k : ∀ s ∈ ss, KsOk s.2.1
  w : ∀ s ∈ ss, WaysOk s.2.1 s.2.2
def scaleK (f : Nat) (ks : List K3) : List K3 := ks.map fun k => (k.1, k.2.1 * (f : Int) - (f : Int) / 3, k.2.2)
def scaleS (f : Nat) (s : Spc) : Spc := (s.1, scaleK f s.2.1, s.2.2)
def tkOf (s : Spc) : Tk := ⟨s.1, s.2.1, s.2.2⟩
section
variable (K : PySem.W.Frag) (CT CS CB : Addr)
def sp_law_row : Sp := fun vs H Q _ => ∃ B c m, vs = [.int c, .int ((m : Nat) : Int)] ∧ Ex B H ∧ m ≤ 250 ∧ ∀ xs, Nums m xs → RetR (LI K) xs B H Q
def sp_law_numbers : Sp := fun vs H Q _ => ∃ B sv ns m, vs = [sv, .int ((m : Nat) : Int)] ∧ Ex B H ∧ LI K ns sv B ∧ m ≤ 200 ∧ ∀ xs, Nums m xs → RetR (LI K) xs B H Q
def sp_law_name : Sp := fun vs H Q _ => ∃ n k, vs = [.int n, .int k] ∧ 0 ≤ n ∧ n < 1009 ∧ (k = 0 ∨ k = 1) ∧ RetV (.str (nameOf n k)) H Q
def sp_law_table : Sp := fun vs H Q _ => ∃ B nv xs at', vs = [nv, .int ((at' : Nat) : Int)] ∧ Ex B H ∧ LI K xs nv B ∧ Nums 110 xs ∧ at' ≤ 100 ∧ ∀ tb : List Int, 1 ≤ tb.length → tb.length ≤ 3 → (∀ x ∈ tb, 0 ≤ x ∧ x ≤ 3) → RetR (LI K) tb B H Q
def sp_law_kinds : Sp := fun vs H Q _ => ∃ B nv xs at', vs = [nv, .int ((at' : Nat) : Int)] ∧ Ex B H ∧ LI K xs nv B ∧ Nums 110 xs ∧ at' ≤ 50 ∧ ∀ ks, KsOk ks → RetR (LR K (rK3 K)) ks B H Q
def sp_law_ways : Sp := fun vs H Q _ => ∃ B nv xs at' kv ks, vs = [nv, .int ((at' : Nat) : Int), kv] ∧ Ex B H ∧ LI K xs nv B ∧ Nums 110 xs ∧ at' ≤ 50 ∧ LR K (rK3 K) ks kv B ∧ KsOk ks ∧ ∀ ws, WaysOk ks ws → RetR (LR K (rW3 K)) ws B H Q
def sp_law_specs : Sp := fun vs H Q _ => ∃ B nv xs, vs = [nv] ∧ Ex B H ∧ LI K xs nv B ∧ Nums 110 xs ∧ ∀ ss, SpecsOk ss → RetR (LR K (rSpec K)) ss B H Q
def sp_law_scaled : Sp := fun vs H Q _ => ∃ B sv ss f, vs = [sv, .int ((f : Nat) : Int)] ∧ Ex B H ∧ LR K (rSpec K) ss sv B ∧ SpecsOk ss ∧ 1 ≤ f ∧ f ≤ 240 ∧ RetR (LR K (rSpec K)) (ss.map (scaleS f)) B H Q
def sp_law_system : Sp := fun vs H Q _ => ∃ B sv tv ss tb, vs = [sv, tv] ∧ Ex B H ∧ LR K (rSpec K) ss sv B ∧ LI K tb tv B ∧ SysOk (ss.map tkOf) tb ∧ RetR (rSy K CT CS) (ss.map tkOf, tb) B H Q
def sp_law_course : Sp := fun vs H Q _ => ∃ B nv xs at' kv ks wv ws m, vs = [nv, .int ((at' : Nat) : Int), kv, wv, .int ((m : Nat) : Int)] ∧ Ex B H ∧ LI K xs nv B ∧ Nums 110 xs ∧ at' ≤ 82 ∧ LR K (rK3 K) ks kv B ∧ LR K (rW3 K) ws wv B ∧ 1 ≤ ks.length ∧ WaysOk ks ws ∧ 1 ≤ m ∧ m ≤ 9 ∧
  ∀ L, NLM.Legal (ks.map fun k : K3 => k.1) ws L → (∀ x ∈ L, 0 ≤ x.1) → L.length ≤ 9 → RetR (LR K (rRel K)) L B H Q
def sp_law_follows : Sp := fun vs H Q _ => ∃ B sv, ∃ s : Spc, ∃ av a bv b, vs = [sv, av, bv] ∧ Ex B H ∧ rSpec K s sv B ∧ rRel K a av B ∧ rRel K b bv B ∧ NLM.Follows s.2.2 a b ∧ RetV (.bl true) H Q
def sp_law_cost : Sp := fun vs H Q _ => ∃ B sv, ∃ s : Spc, ∃ nm, vs = [sv, .str nm] ∧ Ex B H ∧ rSpec K s sv B ∧ RetV (.int (NLM.costOf s.2.1 nm)) H Q
def sp_law_waiting : Sp := fun vs H Q _ => ∃ B sv tv rv, ∃ ss : List Spc, ∃ tb LL n, vs = [sv, tv, rv, .int ((n : Nat) : Int)] ∧ Ex B H ∧ LR K (rSpec K) ss sv B ∧ LI K tb tv B ∧ LR K (LR K (rRel K)) LL rv B ∧ LL.length = ss.length ∧ ss.length ≤ 10 ∧ 1 ≤ tb.length ∧ tb.length ≤ 10 ∧ n ≤ 100 ∧
  RetR (LI K) ((List.range (n + 1)).map (NLM.walk (NLM.slotAll ((ss.map fun s : Spc => s.2.1).zip LL)) tb)) B H Q
def sp_law : Sp := fun vs H Q _ => ∃ sv ns, vs = [sv] ∧ LI K ns sv H ∧ RetV (.bl true) H Q
end
theorem find_at {α : Type} {p : α → Bool} : ∀ {l : List α} {i : Nat} {x : α}, l[i]? = some x → p x = true → (∀ (j : Nat) (y : α), j < i → l[j]? = some y → p y = false) → l.find? p = some x
  | a :: l, 0, x, h, hp, _ => by
    cases h
    rw [List.find?_cons_of_pos hp]
  | a :: l, i + 1, x, h, hp, hn => by
    have h0 := hn 0 a (Nat.succ_pos _) rfl
    rw [List.find?_cons_of_neg (by rw [h0]; decide)]
    exact find_at (i := i) h hp fun j y hj hy => hn (j + 1) y (Nat.succ_lt_succ hj) hy
/-! ### names -/
instance (z : Str) : Decidable (NameOk z) := by unfold NameOk; infer_instance
theorem names_ok : ∀ a : Fin 6, ∀ m : Fin 3, ∀ b : Bool, NameOk (nmOf (kxz.cps.toList.getD a.1 0) ((m.1 : Nat) : Int) b 0) ∧ NameOk (nmOf (kxz.cps.toList.getD a.1 0) ((m.1 : Nat) : Int) b 1) ∧
    nmOf (kxz.cps.toList.getD a.1 0) ((m.1 : Nat) : Int) b 0 ≠ nmOf (kxz.cps.toList.getD a.1 0) ((m.1 : Nat) : Int) b 1 := by decide +kernel
theorem name_ok {n : Int} (h0 : 0 ≤ n) : NameOk (nameOf n 0) ∧ NameOk (nameOf n 1) ∧ nameOf n 0 ≠ nameOf n 1 := by
  have h := names_ok ⟨(n % 6).toNat, by omega⟩ ⟨(n / 6 % 3).toNat, by omega⟩ (decide (n / 18 % 2 = 0))
  dsimp only at h
  rw [Int.toNat_of_nonneg (by omega)] at h
  exact h
theorem name_ok' {n k : Int} (h0 : 0 ≤ n) (hk : k = 0 ∨ k = 1) : NameOk (nameOf n k) := by
  rcases hk with rfl | rfl
  · exact (name_ok h0).1
  · exact (name_ok h0).2.1
theorem kxz_at : ∀ a : Fin 6, kxz.cps.toList[a.1]? = some (kxz.cps.toList.getD a.1 0) := by decide +kernel
theorem mul_len : ∀ a : Fin 6, ∀ m : Fin 3, (Txt.mul ⟨#[kxz.cps.toList.getD a.1 0]⟩ ((m.1 : Nat) : Int)).length ≤ 10 := by decide +kernel
theorem num_len {k : Int} (hk : k = 0 ∨ k = 1) : (toString k : Str).length ≤ 10 := by
  rcases hk with rfl | rfl
  · decide +kernel
  · decide +kernel
/-- the i-th kind that is drawn -/
def kOf (xs : List Int) (at' : Nat) (i : Nat) : K3 := (nameOf (xs.getD (at' + 1) 0) (i : Int), 1 + xs.getD (at' + 2 + 2 * i) 0 % 4, 1 + xs.getD (at' + 3 + 2 * i) 0 % 9)
theorem ksOk_of {xs : List Int} {at' n : Nat} (h0 : 0 ≤ xs.getD (at' + 1) 0) (h1 : 1 ≤ n) (h2 : n ≤ 2) : KsOk ((List.range n).map (kOf xs at')) := by
  obtain ⟨a, b, c⟩ := name_ok h0
  refine ⟨by rw [List.length_map, List.length_range]; exact h1, by rw [List.length_map, List.length_range]; exact h2, ?_, ?_, ?_, ?_⟩
  · obtain rfl | rfl : n = 1 ∨ n = 2 := by omega
    · exact List.nodup_cons.mpr ⟨List.not_mem_nil, List.nodup_nil⟩
    · refine List.nodup_cons.mpr ⟨fun h => ?_, List.nodup_cons.mpr ⟨List.not_mem_nil, List.nodup_nil⟩⟩
      rcases List.mem_cons.mp h with h | h
      · exact c h
      · cases h
  · intro k hk
    obtain ⟨i, hi, rfl⟩ := List.mem_map.mp hk
    have hi := List.mem_range.mp hi
    exact name_ok' h0 (by omega)
  · intro k hk
    obtain ⟨i, hi, rfl⟩ := List.mem_map.mp hk
    show 1 ≤ 1 + _ % 4 ∧ 1 + _ % 4 ≤ (4 : Int)
    omega
  · intro k hk
    obtain ⟨i, hi, rfl⟩ := List.mem_map.mp hk
    show 1 ≤ 1 + _ % 9 ∧ 1 + _ % 9 ≤ (9 : Int)
    omega
end NL
set_option Elab.async false
set_option linter.all false
set_option maxRecDepth 100000
set_option maxHeartbeats 4000000
namespace NL
open PySem PySem.Spec PyProof.Rows L2
open Evl (Ex ex_l ex_t sz_of sz_lt)
theorem find_eag (nm : Str) : ∀ ks : List K3, (eagK ks).find? (fun k => decide (k.1 = nm)) = (ks.find? fun k => decide (k.1 = nm)).map fun k => (k.1, k.2.1, 1)
  | [] => rfl
  | k :: ks => by
    show List.find? _ ((k.1, k.2.1, 1) :: eagK ks) = _
    by_cases c : k.1 = nm
    · rw [List.find?_cons_of_pos (by simpa using c), List.find?_cons_of_pos (by simpa using c)]
      rfl
    · rw [List.find?_cons_of_neg (by simpa using c), List.find?_cons_of_neg (by simpa using c)]
      exact find_eag nm ks
theorem cost_eag (ks : List K3) (nm : Str) : NLM.costOf (eagK ks) nm = NLM.costOf ks nm := by
  unfold NLM.costOf
  rw [find_eag]
  cases ks.find? fun k => decide (k.1 = nm) <;> rfl
theorem slot_eag (ks : List K3) (L : List (Int × Str)) (u : Int) : NLM.slotWork (eagK ks) L u = NLM.slotWork ks L u := by
  unfold NLM.slotWork
  refine congrArg List.sum (List.map_congr_left fun r _ => ?_)
  rw [cost_eag]
theorem slotAll_eag (u : Nat) : ∀ (ss : List Spc) (LL : List (List (Int × Str))), NLM.slotAll ((((ss.map tkOf).map eagT).map fun T : Tk => T.kinds).zip LL) u = NLM.slotAll ((ss.map fun s : Spc => s.2.1).zip LL) u
  | [], _ => rfl
  | _ :: _, [] => rfl
  | s :: ss, L :: LL => by
    show NLM.slotWork (eagK s.2.1) L u + NLM.slotAll ((((ss.map tkOf).map eagT).map fun T : Tk => T.kinds).zip LL) u = NLM.slotWork s.2.1 L u + NLM.slotAll ((ss.map fun s : Spc => s.2.1).zip LL) u
    rw [slot_eag, slotAll_eag u ss LL]
theorem legal_mem {ns : List Str} {ws : List W3} : ∀ {L : List (Int × Str)}, NLM.Legal ns ws L → ∀ {i : Nat} {x : Int × Str}, L[i]? = some x → x.2 ∈ ns
  | [a], h, 0, x, e => by cases e; exact h
  | a :: b :: r, h, 0, x, e => by cases e; exact h.1
  | a :: b :: r, h, i + 1, x, e => legal_mem h.2.2 (i := i) e
theorem legal_follows {ns : List Str} {ws : List W3} : ∀ {L : List (Int × Str)}, NLM.Legal ns ws L → ∀ {i : Nat} {x y : Int × Str}, L[i]? = some x → L[i + 1]? = some y → NLM.Follows ws x y
  | a :: b :: r, h, 0, x, y, e, e' => by cases e; cases e'; exact h.2.1
  | a :: b :: r, h, i + 1, x, y, e, e' => legal_follows h.2.2 (i := i) e e'
section
variable {ss : List Spc} {tb : List Int} {h : Nat} {M : Int} {it st : Nat} {LB : List (List (Int × Str))}
theorem eag_wf (ok : SysOk (ss.map tkOf) tb) : ∀ T ∈ (ss.map tkOf).map eagT, NLM.Wf T := fun T hT => (ok.eag.t T hT).wf (sys_one _ T hT)
theorem excess_le (ok : SysOk (ss.map tkOf) tb) (b : BackOk (ss.map tkOf) tb h M it st LB) : ∀ e s, s < e → NLM.total ((ss.map tkOf).map eagT) (e - s) - (NLM.sof tb e - NLM.sof tb s) ≤ M := by
  obtain ⟨⟨q, k, cnt, gs, hk, rfl, hq, hw, hgl, hgs, hsum⟩, _, _, _, hall, _⟩ := b
  have hP := ok.b.ne
  refine NLM.excess_all (h := h) (k := k) (by omega) hk (by omega) (fun n hn => ?_) hall
  have := NLM.total_round (m := h - tb.length) (cnt := cnt) (q := tb.length * k) (n := n) (by omega) (by omega) (Ts := (ss.map tkOf).map eagT) (gs := gs) (fun T hT => ⟨eag_wf ok T hT, hw T hT⟩) hgl hgs
  omega
/-- no system of courses leaves more work waiting than M -/
theorem waiting_le (ok : SysOk (ss.map tkOf) tb) (b : BackOk (ss.map tkOf) tb h M it st LB) {LL : List (List (Int × Str))} (hl : LL.length = ss.length)
    (hL : ∀ (i : Nat) (s : Spc) (L : List (Int × Str)), ss[i]? = some s → LL[i]? = some L → NLM.Legal (s.2.1.map fun k : K3 => k.1) s.2.2 L) (t : Nat) :
    NLM.walk (NLM.slotAll ((ss.map fun s : Spc => s.2.1).zip LL)) tb t ≤ M := by
  have hP := ok.b.ne
  have hM := b.2.2.1
  rw [show NLM.slotAll ((ss.map fun s : Spc => s.2.1).zip LL) = NLM.slotAll ((((ss.map tkOf).map eagT).map fun T : Tk => T.kinds).zip LL) from funext fun u => (slotAll_eag u ss LL).symm]
  rcases NLM.walk_or (tb := tb) (f := NLM.slotAll ((((ss.map tkOf).map eagT).map fun T : Tk => T.kinds).zip LL)) (by omega) t with e | ⟨s, hs, e⟩
  · rw [e]; exact hM
  · rw [e]
    have u := NLM.upto_work ((((ss.map tkOf).map eagT).map fun T : Tk => T.kinds).zip LL) s (t - s)
    rw [show s + (t - s) = t by omega] at u
    have w : NLM.workAll ((((ss.map tkOf).map eagT).map fun T : Tk => T.kinds).zip LL) s t ≤ NLM.total ((ss.map tkOf).map eagT) (t - s) := NLM.workAll_le (s := s) (e := t) (by omega) (Ts := (ss.map tkOf).map eagT) (Ls := LL) (eag_wf ok) (by rw [List.length_map, List.length_map]; exact hl) (fun i T L hT hLi => by
      rw [List.getElem?_map, List.getElem?_map] at hT
      obtain ⟨T1, hT1, rfl⟩ := Option.map_eq_some_iff.mp hT
      obtain ⟨s1, hs1, rfl⟩ := Option.map_eq_some_iff.mp hT1
      have := hL i s1 L hs1 hLi
      have hn : (eagK s1.2.1).map (fun k : K3 => k.1) = s1.2.1.map fun k : K3 => k.1 := by rw [eagK, List.map_map]; rfl
      show NLM.Legal ((eagK s1.2.1).map fun k : K3 => k.1) s1.2.2 L
      rw [hn]
      exact this)
    have x := excess_le ok b t s hs
    rw [u]
    omega
theorem back_legal (b : BackOk (ss.map tkOf) tb h M it st LB) {i : Nat} {s : Spc} {L : List (Int × Str)} (hs : ss[i]? = some s) (hLi : LB[i]? = some L) : NLM.Legal (s.2.1.map fun k : K3 => k.1) s.2.2 L ∧ ∀ x ∈ L, (st : Int) ≤ x.1 := by
  obtain ⟨_, _, _, _, _, h6⟩ := b
  rcases h6 with ⟨_, _, _, h⟩ | ⟨_, _, _, h⟩
  · rw [h L (List.mem_of_getElem? hLi)]
    exact ⟨trivial, fun _ h => by cases h⟩
  · obtain ⟨L0, hd, rfl⟩ := h i (tkOf s) L (by rw [List.getElem?_map, hs]; rfl) hLi
    have hn : (eagK s.2.1).map (fun k : K3 => k.1) = s.2.1.map fun k : K3 => k.1 := by rw [eagK, List.map_map]; rfl
    have hl : NLM.Legal ((eagK s.2.1).map fun k : K3 => k.1) s.2.2 L0 := hd.legal
    rw [hn] at hl
    refine ⟨NLM.legal_moved _ hl, fun x hx => ?_⟩
    obtain ⟨y, hy, rfl⟩ := List.mem_map.mp hx
    have := (hd.all y hy).1
    show (st : Int) ≤ y.1 + st
    omega
/-- the releases that are handed back leave M waiting -/
theorem back_waiting (ok : SysOk (ss.map tkOf) tb) (b : BackOk (ss.map tkOf) tb h M it st LB) : NLM.walk (NLM.slotAll ((ss.map fun s : Spc => s.2.1).zip LB)) tb it = M := by
  have hlen : LB.length = ss.length := by have := b.2.2.2.1.1; rw [List.length_map] at this; exact this
  have hle := waiting_le ok b hlen (fun i s L hs hL => (back_legal b hs hL).1) it
  have hP := ok.b.ne
  obtain ⟨_, _, hM, _, _, h6⟩ := id b
  rcases h6 with ⟨rfl, rfl, _, _⟩ | ⟨h1, h2, h3, h4⟩
  · rfl
  · refine Int.le_antisymm hle ?_
    have hg := NLM.walk_ge (tb := tb) (f := NLM.slotAll ((((ss.map tkOf).map eagT).map fun T : Tk => T.kinds).zip LB)) (by omega) it st (by omega)
    rw [show NLM.slotAll ((((ss.map tkOf).map eagT).map fun T : Tk => T.kinds).zip LB) = NLM.slotAll ((ss.map fun s : Spc => s.2.1).zip LB) from funext fun u => slotAll_eag u ss LB] at hg
    have u := NLM.upto_work ((((ss.map tkOf).map eagT).map fun T : Tk => T.kinds).zip LB) st (it - st)
    have w : NLM.workAll ((((ss.map tkOf).map eagT).map fun T : Tk => T.kinds).zip LB) st ((st + (it - st) : Nat) : Int) = NLM.total ((ss.map tkOf).map eagT) (it - st) := NLM.workAll_heavy (s := st) (n := it - st) (Ts := (ss.map tkOf).map eagT) (Ls := LB) (by rw [List.length_map, List.length_map]; exact hlen) (fun i T L hT hLi => by
      rw [List.getElem?_map] at hT
      obtain ⟨T1, hT1, rfl⟩ := Option.map_eq_some_iff.mp hT
      exact h4 i T1 L hT1 hLi)
    rw [show st + (it - st) = it by omega] at u w
    rw [show NLM.slotAll ((((ss.map tkOf).map eagT).map fun T : Tk => T.kinds).zip LB) = NLM.slotAll ((ss.map fun s : Spc => s.2.1).zip LB) from funext fun u => slotAll_eag u ss LB] at u
    rw [w] at u
    omega
end
theorem scaled_ok {ss0 : List Spc} {tb0 : List Int} {fc : Nat} (h : SpecsOk ss0) (hf1 : 1 ≤ fc) (hf2 : fc ≤ 240) (h1 : 1 ≤ tb0.length) (h2 : tb0.length ≤ 3) (h3 : ∀ x ∈ tb0, 0 ≤ x ∧ x ≤ 3) :
    SysOk ((ss0.map (scaleS fc)).map tkOf) (tb0.map fun c => c * (fc : Int) + (fc : Int)) ∧ 1 ≤ (ss0.map (scaleS fc)).length ∧ (ss0.map (scaleS fc)).length ≤ 2 ∧ 1 ≤ (tb0.map fun c => c * (fc : Int) + (fc : Int)).length ∧ (tb0.map fun c => c * (fc : Int) + (fc : Int)).length ≤ 3 := by
  rw [List.length_map, List.length_map]
  have hbd : ∀ x : Int, 0 ≤ x → ∀ b : Int, x ≤ b → x * (fc : Int) ≤ b * 240 ∧ 0 ≤ x * (fc : Int) := fun x hx b hb => by
    have a1 : x * (fc : Int) ≤ b * (fc : Int) := Int.mul_le_mul_of_nonneg_right hb (by omega)
    have a2 : b * (fc : Int) ≤ b * 240 := Int.mul_le_mul_of_nonneg_left (by omega) (by omega)
    have a3 : 0 ≤ x * (fc : Int) := Int.mul_nonneg hx (by omega)
    exact ⟨Int.le_trans a1 a2, a3⟩
  refine ⟨⟨?_, ?_, ?_, ⟨?_, ?_, ?_⟩⟩, h.ne, h.le, h1, h2⟩
  · intro T hT
    obtain ⟨s', hs', rfl⟩ := List.mem_map.mp hT
    obtain ⟨s, hs, rfl⟩ := List.mem_map.mp hs'
    have hk := h.k s hs
    have hw := h.w s hs
    have hn : (scaleK fc s.2.1).map (fun k : K3 => k.1) = s.2.1.map fun k : K3 => k.1 := by rw [scaleK, List.map_map]; rfl
    have hl : (scaleK fc s.2.1).length = s.2.1.length := List.length_map _
    refine ⟨h.nm s hs, ⟨?_, ?_, ?_, ?_, ?_, ?_⟩, ⟨hw.le, ?_, ?_, hw.d⟩⟩
    · show 1 ≤ (scaleK fc s.2.1).length
      rw [hl]
      exact hk.ne
    · show (scaleK fc s.2.1).length ≤ 8
      rw [hl]
      exact Nat.le_trans hk.le (by decide)
    · show ((scaleK fc s.2.1).map fun k : K3 => k.1).Nodup
      rw [hn]
      exact hk.nd
    · intro k hk'
      obtain ⟨k0, hk0, rfl⟩ := List.mem_map.mp hk'
      exact hk.nm k0 hk0
    · intro k hk'
      obtain ⟨k0, hk0, rfl⟩ := List.mem_map.mp hk'
      have hc := hk.c k0 hk0
      have a := hbd k0.2.1 (by omega) 4 hc.2
      have b : 1 * (fc : Int) ≤ k0.2.1 * (fc : Int) := Int.mul_le_mul_of_nonneg_right hc.1 (by omega)
      show 1 ≤ k0.2.1 * (fc : Int) - (fc : Int) / 3 ∧ k0.2.1 * (fc : Int) - (fc : Int) / 3 ≤ 1000
      omega
    · intro k hk'
      obtain ⟨k0, hk0, rfl⟩ := List.mem_map.mp hk'
      have hd := hk.d k0 hk0
      show 1 ≤ k0.2.2 ∧ k0.2.2 ≤ (1000 : Int)
      omega
    · intro w hw'
      show w.1 ∈ (scaleK fc s.2.1).map fun k : K3 => k.1
      rw [hn]
      exact hw.s w hw'
    · intro w hw'
      show w.2.1 ∈ (scaleK fc s.2.1).map fun k : K3 => k.1
      rw [hn]
      exact hw.t w hw'
  · rw [List.map_map, List.map_map]
    exact h.nd
  · rw [List.length_map, List.length_map]
    exact Nat.le_trans h.le (by decide)
  · rw [List.length_map]
    exact h1
  · rw [List.length_map]
    exact Nat.le_trans h2 (by decide)
  · intro x hx
    obtain ⟨c, hc, rfl⟩ := List.mem_map.mp hx
    have h4 := h3 c hc
    have a := hbd c h4.1 3 h4.2
    show 0 ≤ c * (fc : Int) + (fc : Int) ∧ c * (fc : Int) + (fc : Int) ≤ 1000000
    omega
end NL
set_option Elab.async false
set_option linter.all false
set_option maxRecDepth 100000
set_option maxHeartbeats 4000000
local macro_rules | `(tactic| walk_at "ga") => `(tactic| (repeat (first | refine ⟨_, rfl, ?_⟩ | refine ⟨_, _, rfl, rfl, ?_⟩ | refine ⟨_, _, _, _, rfl, rfl, (by assumption), rfl, ?_⟩ | refine ⟨rfl, ?_⟩ | refine .inl ⟨_, rfl, ?_⟩ | refine ⟨.inr ⟨by decide, by decide⟩, ?_⟩ | refine ⟨.inl ⟨by decide, by decide⟩, ?_⟩ | refine ⟨by decide, ?_⟩ | refine ⟨(by show (0 : Int) < _; decide), ?_⟩ | refine ⟨⟨by decide, by decide⟩, ?_⟩ | refine ⟨⟨by decide, by decide, by decide⟩, ?_⟩)))
local macro_rules | `(tactic| walk_at "go") => `(tactic| (repeat (first | refine ⟨_, rfl, ?_⟩ | refine ⟨_, _, rfl, rfl, ?_⟩ | refine ⟨_, _, _, _, rfl, rfl, (by assumption), rfl, ?_⟩ | refine ⟨rfl, ?_⟩)))
namespace NL
open PySem PySem.Spec PyProof.Rows L2
open Evl (Ex ex_l ex_t sz_of sz_lt)
theorem ok_own_work {P : Program} {w : World} {K : PySem.W.Frag} {mg : Str → Option Value} {base : Heap} {CT CS CB : Addr} {f : Addr} {fd : FuncData} (F : Fun K "own_work" "own_work" s_own_work f fd) (T : Tx K mg CT CS CB)  :
    FnOk P w K mg base CX0 1 f fd P_own_work (sp_own_work K) := by
  refine F.ok sc_own_work (fun vs H Q E h => ?_) (fun cdv A outer s H vs Q E hr h => ?_)
  · obtain ⟨B, kv, k, n, rfl, _⟩ := h
    rfl
  · obtain ⟨B, kv, k, n, rfl, e, ⟨a, rfl, ha⟩, q⟩ := h
    have ha' := ex_t e ha
    refine ⟨_, (pss_cons (ps_if (pt_cmpR op_le (pe_ix ix_tup (pv 0) pe_int (fun _ _ => rfl)) (pv 1) (nomark _)) (pss_one (ps_ret (pe_ix ix_tup (pv 0) pe_int (fun _ _ => rfl)))) pss_nil)
    (pss_one (ps_ret pe_int))), ?_⟩
    walk_at "go"
    refine ited (fun c => ?_) (fun c => ?_)
    · walk_at "go"
      rw [NLM.ownW, if_pos c] at q
      exact q.go (Ex.refl _)
    · rw [NLM.ownW, if_neg c] at q
      exact q.go (Ex.refl _)
theorem ok_Task_kind_number {P : Program} {w : World} {K : PySem.W.Frag} {mg : Str → Option Value} {base : Heap} {CT CS CB : Addr} {f : Addr} {fd : FuncData} (F : Fun K "kind_number" "Task.kind_number" s_Task_kind_number f fd) (T : Tx K mg CT CS CB)  :
    FnOk P w K mg base CX0 1 f fd P_Task_kind_number (sp_Task_kind_number K CT) := by
  refine F.ok sc_Task_kind_number (fun vs H Q E h => ?_) (fun cdv A outer s H vs Q E hr h => ?_)
  · obtain ⟨B, tv, T', nm, rfl, _⟩ := h
    rfl
  · obtain ⟨B, tv, T', nm, rfl, e, ⟨p, dx, fs, kv, wv, rfl, hp, hnm, hk, hw, hkn, hwf, ⟨ka, kvs, rfl, hka, hkr⟩, hways⟩, hmem, q⟩ := h
    have hp' := e _ _ hp
    have hka' := ex_t e hka
    refine ⟨_, (pss_cons (ps_for PassesOwn.never rfl (pi_enumT rfl T.enumerate (pa_cons (pe_fld (pv 0) rfl) pa_nil)) (pg_tup rfl (pgs_cons (pg_name (i := 2) sc_Task_kind_number.nd rfl (Or.inl rfl)) (pgs_cons (pg_name (i := 3) sc_Task_kind_number.nd rfl (Or.inl rfl)) pgs_nil))) (pss_one (ps_if (pt_cmpR op_eq (pe_ix ix_tup (pv 3) pe_int (fun _ _ => rfl)) (pv 1) (nomark _)) (pss_one (ps_ret (pv 2))) pss_nil)))
    (pss_one ps_never)), ?_⟩
    refine ⟨_, rfl, p, CT, dx, fs, _, rfl, hp', T.clTask, T.naTask_kinds, hk, ka, kvs, rfl, hka', ?_⟩
    refine for_it walk_enumT (fun i σ' H' => Ex H H' ∧ i ≤ NLM.kn T'.kinds nm ∧ ∃ u v, σ' = [some (.ref p), some (.str nm), u, v]) ⟨Ex.refl _, Nat.zero_le _, _, _, rfl⟩ (fun i σ' H' _ ⟨e1, _⟩ => ex_t e1 hka') ?_ ?_
    · intro i x σ' H' H2 hi ⟨e1, hle, u, v, hσ⟩ y
      subst hσ
      obtain ⟨Tp, x1, x2, rfl, hf, rfl, h1, h2⟩ := y
      cases h1
      obtain ⟨k, hk1, xa, rfl, hxa⟩ := hkr.get' h2
      have en := e1.trans (Ex.new (o := .tup [.int (i : Int), .ref xa]) hf)
      have hxa' := ex_t (e.trans en) hxa
      refine ⟨Tp, _, rfl, SqT.of upd_same, rfl, _, _, rfl, _, _, rfl, rfl, ?_⟩
      walk_at "go"
      refine ited (fun c => ?_) (fun c => ?_)
      · walk_at "go"
        injection c with c
        have := Nat.le_antisymm hle (NLM.kn_not hk1 c)
        subst this
        exact q.go en
      · exact ⟨en, NLM.kn_next hmem hk1 (fun h => c (by rw [h])) hle, _, _, rfl⟩
    · rintro σ' H' ⟨e1, hle, u, v, hσ⟩
      have := NLM.kn_lt hmem
      have hl := hkr.len
      exact absurd hle (by omega)
theorem ok_Task_ways_from {P : Program} {w : World} {K : PySem.W.Frag} {mg : Str → Option Value} {base : Heap} {CT CS CB : Addr} {f : Addr} {fd : FuncData} (F : Fun K "ways_from" "Task.ways_from" s_Task_ways_from f fd) (T : Tx K mg CT CS CB) {f_Task_kind_number : Addr} {fd_Task_kind_number : FuncData} (C_Task_kind_number : CalM P w K mg base CT "kind_number" 1 P_Task_kind_number (sp_Task_kind_number K CT) f_Task_kind_number fd_Task_kind_number) :
    FnOk P w K mg base CX0 2 f fd P_Task_ways_from (sp_Task_ways_from K CT) := by
  refine F.ok sc_Task_ways_from (fun vs H Q E h => ?_) (fun cdv A outer s H vs Q E hr h => ?_)
  · obtain ⟨B, tv, T', nm, rfl, _⟩ := h
    rfl
  · obtain ⟨B, tv, T', nm, rfl, e, hT, hok, hmem, q⟩ := h
    obtain ⟨p, dx, fs, kv, wv, rfl, hp, hnm, hk, hw, hkn, hwf, hkr, ⟨wa, wvs, rfl, hwa, hwr⟩⟩ := id hT
    have hp' := e _ _ hp
    refine ⟨_, (pss_cons (ps_expr (pe_meth (pv 0) T.clTask C_Task_kind_number.me C_Task_kind_number.ok (hr.mono (by decide)) C_Task_kind_number.b .nil pass0 (pa_cons (pv 1) pa_nil)))
    (pss_one (ps_ret (pe_lc (own := [("way", 2)])  rfl sc_Task_ways_from.nd  (pi_tup (pe_fld (pv 0) rfl)) (blkOk_by (N := N_Task_ways_from) (sc := defScope s_Task_ways_from) (by decide +kernel)) (fun _ _ _ _ _ => pg_name (i := 2) sc_Task_ways_from.nd rfl (Or.inl rfl)) (fun _ _ _ _ _ => (pts_one (pt_cmpR op_eq (pe_ix (ix_tupK K) (pv 2) pe_int (fun _ _ => rfl)) (pv 1) (nomark _)))) (fun _ _ _ _ _ => (pe_tup (pa_cons (pe_ix (ix_tupK K) (pv 2) pe_int (fun _ _ => rfl)) (pa_cons (pe_ix (ix_tupK K) (pv 2) pe_int (fun _ _ => rfl)) pa_nil)))))))), ?_⟩
    refine ⟨_, rfl, p, dx, fs, rfl, hp', hkn, _, rfl, B, _, T', nm, rfl, e, hT, hmem, fun H1 e1 => ?_⟩
    refine ⟨_, rfl, p, CT, dx, fs, _, rfl, e1 _ _ hp', T.clTask, T.naTask_ways, hw, wa, rfl, ⟨_, ex_t e1 (ex_t e hwa)⟩, ?_⟩
    refine lc_TR (mono_SI (K := K)) ((Sg.refl e).ext e1) hwa hwr (fun w => decide (w.1 = nm)) (fun w => w.2) (Nat.le_trans hok.w.le (by decide)) ?_ ?_
    · intro x v N' H' hx ⟨xa, hv, hxa⟩ eN G
      subst hv
      intro Nn Y hn hy
      have hxa' := ex_t (eN.trans G.eH) hxa
      refine ⟨rfl, ?_⟩
      walk_at "go"
      refine ited (fun c => ?_) (fun c => ?_)
      · walk_at "go"
        refine ⟨sz2, fun p hp => ?_⟩
        exact hy (decide_eq_true (V.str.inj c)) _ _ _ ((Sg.refl G.eH).new hp) ⟨p, rfl, SqT.of upd_same⟩
      · exact hn (decide_eq_false fun h => c (by rw [h])) _ _ (Sg.refl G.eH)
    · intro v N' H' eN G r
      exact q.go G r
theorem ok_best_continuation {P : Program} {w : World} {K : PySem.W.Frag} {mg : Str → Option Value} {base : Heap} {CT CS CB : Addr} {f : Addr} {fd : FuncData} (F : Fun K "best_continuation" "best_continuation" s_best_continuation f fd) (T : Tx K mg CT CS CB) {f_Task_ways_from : Addr} {fd_Task_ways_from : FuncData} {f_Task_kind_number : Addr} {fd_Task_kind_number : FuncData} (C_Task_ways_from : CalM P w K mg base CT "ways_from" 2 P_Task_ways_from (sp_Task_ways_from K CT) f_Task_ways_from fd_Task_ways_from) (C_Task_kind_number : CalM P w K mg base CT "kind_number" 1 P_Task_kind_number (sp_Task_kind_number K CT) f_Task_kind_number fd_Task_kind_number) :
    FnOk P w K mg base CX0 3 f fd P_best_continuation (sp_best_continuation K CT) := by
  refine F.ok sc_best_continuation (fun vs H Q E h => ?_) (fun cdv A outer s H vs Q E hr h => ?_)
  · obtain ⟨B, tv, T', nm, n, fv, m, rfl, _⟩ := h
    rfl
  · obtain ⟨B, tv, T', nm, n, fv, m, rfl, e, hT, hok, hmem, ⟨fa, rs, rfl, hfa, hfr⟩, hnm, hm, q⟩ := h
    refine ⟨_, (pss_cons (ps_set (i := 4) sc_best_continuation.nd rfl (Or.inl rfl) pe_int)
    (pss_cons (ps_for PassesOwn.never rfl (pi_list (pe_meth (pv 0) T.clTask C_Task_ways_from.me C_Task_ways_from.ok (hr.mono (by decide)) C_Task_ways_from.b .nil pass0 (pa_cons (pv 1) pa_nil))) (pg_tup rfl (pgs_cons (pg_name (i := 5) sc_best_continuation.nd rfl (Or.inl rfl)) (pgs_cons (pg_name (i := 6) sc_best_continuation.nd rfl (Or.inl rfl)) pgs_nil))) (pss_one (ps_if (pt_cmpR op_le (pv 6) (pv 2) (nomark _)) (pss_one (ps_set (i := 4) sc_best_continuation.nd rfl (Or.inl rfl) (pe_callB (call_max2 rfl) rfl T.max boot_max (pa_cons (pv 4) (pa_cons (pe_ix ix_list (pe_ix ix_list (pv 3) (pe_op op_sub (pv 2) (pv 6)) (fun _ _ => rfl)) (pe_meth (pv 0) T.clTask C_Task_kind_number.me C_Task_kind_number.ok (hr.mono (by decide)) C_Task_kind_number.b .nil pass0 (pa_cons (pv 5) pa_nil)) (fun _ _ => rfl)) pa_nil))))) pss_nil)))
    (pss_one (ps_ret (pv 4))))), ?_⟩
    obtain ⟨p, dx, fs, kv, wv, rfl, hp, hnm', hk, hw, hkn, hwf, hkr, hwr'⟩ := id hT
    have hp' := e _ _ hp
    have hdis : ∀ w ∈ T'.ways, 1 ≤ w.2.2 := fun w hw => (hok.w.d w hw).1
    refine ⟨_, rfl, p, dx, fs, rfl, hp', hwf, _, rfl, B, _, T', nm, rfl, e, hT, hok, hmem, fun v N1 H1 G1 r1 => ?_⟩
    obtain ⟨wa, wvs, rfl, hwa, hwr⟩ := r1
    refine ⟨wa, rfl, ⟨wvs, ex_l G1.eH hwa⟩, ?_⟩
    refine for_LR hwa hwr (fun i σ' H' => (∃ N2, Sg N1 H1 N2 H') ∧ ∃ u w, σ' = [some (.ref p), some (.str nm), some (.int (n : Int)), some (.ref fa), some (.int (((NLM.waysFrom T' nm).take i).foldl (NLM.bstep T' n) 0)), u, w]) ⟨⟨N1, .refl G1.eH⟩, _, _, rfl⟩ (fun i σ' H' ⟨⟨N2, G2⟩, _⟩ => G2.eN.trans G2.eH) ?_ ?_
    · rintro i ⟨t, d⟩ v σ' H' hx ⟨xa, rfl, hxa⟩ ⟨⟨N2, G2⟩, u, w, rfl⟩
      have hxa' := ex_t (G2.eN.trans G2.eH) hxa
      have hxm := List.mem_of_getElem? hx
      have hd1 := NLM.mem_from_d hdis hxm
      dsimp only at hd1
      refine ⟨xa, _, rfl, hxa', rfl, _, _, rfl, _, _, rfl, rfl, ?_⟩
      walk_at "go"
      refine ited (fun c => ?_) (fun c => ?_)
      · have hj : (((n : Int) - d).toNat : Int) = (n : Int) - d := Int.toNat_of_nonneg (by omega)
        obtain ⟨rv, hrv, ra, rfl, hra⟩ := hfr.get (NLM.rowsN_get T' (n := m) (i := ((n : Int) - d).toNat) (by omega))
        walk_at "go"
        refine ⟨fa, rs, _, _, rfl, rfl, ex_l (G1.e0.trans G2.e0) hfa, atI_of hj.symm hrv, ?_⟩
        have eBH := e.trans (G1.e0.trans G2.e0)
        refine ⟨_, rfl, p, dx, fs, rfl, eBH _ _ hp, hkn, _, rfl, B, _, T', t, rfl, eBH, hT, NLM.mem_from_t hok.w.t hxm, fun H3 e3 => ?_⟩
        have hg : ((NLM.rowOf T' ((n : Int) - d).toNat).map V.int)[NLM.kn T'.kinds t]? = some (.int (NLM.num T' (NLM.kn T'.kinds t) ((n : Int) - d).toNat)) := by
          rw [List.getElem?_map, NLM.row_get _ (NLM.kn_lt (NLM.mem_from_t hok.w.t hxm))] <;> rfl
        refine ⟨ra, _, _, _, rfl, rfl, ex_l (eBH.trans e3) hra, atI_of rfl hg, ?_⟩
        refine ⟨_, _, rfl, ?_⟩
        refine ⟨⟨N2, G2.ext e3⟩, some (.str t), some (.int d), ?_⟩
        rw [take_succ_get hx, List.foldl_append, List.foldl_cons, List.foldl_nil]
        have hb : ∀ x y : Int, (if y > x then y else x) = max x y := fun x y => by
          by_cases h : y > x
          · rw [if_pos h]; omega
          · rw [if_neg h]; omega
        rw [hb, NLM.bstep, if_pos c]
        rfl
      · refine ⟨⟨N2, G2⟩, some (.str t), some (.int d), ?_⟩
        rw [take_succ_get hx, List.foldl_append, List.foldl_cons, List.foldl_nil, NLM.bstep, if_neg c]
        rfl
    · rintro σ' H' ⟨⟨N2, G2⟩, u, w, rfl⟩
      rw [List.take_length, ← NLM.bestC_num hdis]
      walk_at "go"
      exact q.go (G1.e0.trans G2.e0)
theorem ok_rows {P : Program} {w : World} {K : PySem.W.Frag} {mg : Str → Option Value} {base : Heap} {CT CS CB : Addr} {f : Addr} {fd : FuncData} (F : Fun K "rows" "rows" s_rows f fd) (T : Tx K mg CT CS CB) {f_own_work : Addr} {fd_own_work : FuncData} {f_best_continuation : Addr} {fd_best_continuation : FuncData} (C_own_work : CalF P w K mg base "own_work" 1 P_own_work (sp_own_work K) f_own_work fd_own_work) (C_best_continuation : CalF P w K mg base "best_continuation" 3 P_best_continuation (sp_best_continuation K CT) f_best_continuation fd_best_continuation) :
    FnOk P w K mg base CX0 4 f fd P_rows (sp_rows K CT) := by
  refine F.ok sc_rows (fun vs H Q E h => ?_) (fun cdv A outer s H vs Q E hr h => ?_)
  · obtain ⟨B, tv, T', n, rfl, _⟩ := h
    rfl
  · obtain ⟨B, tv, T', n, rfl, e, hT, hok, hn, q⟩ := h
    refine ⟨_, (pss_cons (ps_set (i := 2) sc_rows.nd rfl (Or.inl rfl) (pe_lst pa_nil))
    (pss_cons (ps_for PassesOwn.never rfl (pi_range1 rfl T.range (pa_cons (pe_op op_add (pv 1) pe_int) pa_nil)) (pg_name (i := 3) sc_rows.nd rfl (Or.inl rfl)) (pss_cons (ps_set (i := 4) sc_rows.nd rfl (Or.inl rfl) (pe_lst pa_nil))
    (pss_cons (ps_for PassesOwn.never rfl (pi_tup (pe_fld (pv 0) rfl)) (pg_name (i := 5) sc_rows.nd rfl (Or.inl rfl)) (pss_one (ps_expr (pe_bm PySem.F.plainAttrs_list PySem.F.slot_list_append PySem.F.type_list_append mt_append (pv 4) (pa_cons (pe_op op_add (pe_call C_own_work.ok (hr.mono (by decide)) rfl C_own_work.g C_own_work.kp C_own_work.b .nil pass0 (pa_cons (pv 5) (pa_cons (pv 3) pa_nil))) (pe_call C_best_continuation.ok (hr.mono (by decide)) rfl C_best_continuation.g C_best_continuation.kp C_best_continuation.b .nil pass0 (pa_cons (pv 0) (pa_cons (pe_ix ix_tup (pv 5) pe_int (fun _ _ => rfl)) (pa_cons (pv 3) (pa_cons (pv 2) pa_nil)))))) pa_nil)))))
    (pss_one (ps_expr (pe_bm PySem.F.plainAttrs_list PySem.F.slot_list_append PySem.F.type_list_append mt_append (pv 2) (pa_cons (pv 4) pa_nil)))))))
    (pss_one (ps_ret (pv 2))))), ?_⟩
    obtain ⟨p, dx, fs, kv, wv, rfl, hp, hnm, hk, hw, hkn, hwf, ⟨ka, kvs, rfl, hka, hkr⟩, hwr⟩ := id hT
    have hkl := hok.k.le
    refine ⟨sz0, fun l hl => ?_⟩
    walk_at "go"
    refine ⟨by omega, by omega, ?_⟩
    refine for_range (fun i σ' H' => ∃ N', Sg B H N' H' ∧ N' l = none ∧ (∃ vs, H' l = some (.lst vs) ∧ Pr (LI K) N' (NLM.rowsN T' i) vs) ∧ ∃ u w x, σ' = [some (.ref p), some (.int (n : Int)), some (.ref l), u, w, x]) ⟨B, (Sg.refl e).mut (Evl.fresh_back e hl) hl, Evl.fresh_back e hl, ⟨[], upd_same, .nil⟩, _, _, _, rfl⟩ ?_ ?_
    · rintro i σ' H' hi ⟨N', G, hNl, ⟨vs, hHl, hpr⟩, u, w', x, rfl⟩
      rw [show (0 : Int) + (i : Int) = (i : Int) from Int.zero_add _]
      refine ⟨sz0, fun l2 hl2 => ?_⟩
      obtain ⟨n2, h2⟩ := G.free hl2
      have hll : l ≠ l2 := fun h => by rw [h, hl2] at hHl; cases hHl
      have G2 := G.mut (o := .lst []) n2 h2
      have e2 := G2.eN.trans G2.eH
      refine ⟨_, rfl, p, CT, dx, fs, _, rfl, e2 _ _ hp, T.clTask, T.naTask_kinds, hk, ka, rfl, ⟨_, ex_t e2 hka⟩, ?_⟩
      refine for_TR hka hkr (fun j σ2 H2 => ∃ N2, Ex N' N2 ∧ Sg B H N2 H2 ∧ N2 l = none ∧ N2 l2 = none ∧ H2 l = some (.lst vs) ∧ H2 l2 = some (.lst (((T'.kinds.take j).map (fun k => NLM.ownW k (i : Int) + NLM.bestC T' k.1 (i : Int) (NLM.rowsN T' i))).map V.int)) ∧ ∃ x, σ2 = [some (.ref p), some (.int (n : Int)), some (.ref l), some (.int (i : Int)), some (.ref l2), x])
        ⟨N', Ex.refl _, G2, hNl, n2, (upd_ne hll).trans hHl, upd_same, _, rfl⟩ (fun j σ2 H2 ⟨N2, eN, G3, _⟩ => G3.eN.trans G3.eH) ?_ ?_
      · rintro j k v σ2 H2 hx ⟨xa, rfl, hxa⟩ ⟨N2, eN, G3, a1, a2, a3, a4, x, rfl⟩
        refine ⟨_, rfl, .inl ⟨rfl, _, SqL.of a4⟩, ?_⟩
        walk_at "go"
        refine ⟨N2, _, k, _, rfl, G3.eH, ⟨xa, rfl, ex_t G3.eN hxa⟩, fun H3 e3 => ?_⟩
        have hxa3 : SqT K H3 xa _ := ex_t ((G3.eN.trans G3.eH).trans e3) hxa
        walk_at "go"
        refine ⟨N2, _, T', k.1, i, _, i, rfl, G3.eH.trans e3, mono_T _ _ _ _ G3.eN hT, hok, List.mem_map_of_mem (List.mem_of_getElem? hx), ⟨l, vs, rfl, SqL.of (e3 _ _ a3), Pr.mono mono_LI eN hpr⟩, Nat.le_refl _, by omega, fun H4 e4 => ?_⟩
        walk_at "go"
        refine ⟨l2, _, _, rfl, rfl, e4 _ _ (e3 _ _ a4), sz_lt (by rw [List.length_map, List.length_map, List.length_take]; omega), ?_⟩
        refine ⟨N2, eN, ((G3.ext e3).ext e4).mut a2 h2, a1, a2, (upd_ne hll).trans (e4 _ _ (e3 _ _ a3)), ?_, _, rfl⟩
        rw [upd_same, take_succ_get hx, List.map_append, List.map_append]
        rfl
      · rintro σ2 H2 ⟨N2, eN, G3, a1, a2, a3, a4, x, rfl⟩
        rw [List.take_length] at a4
        have a1' : (upd N2 l2 (.lst ((T'.kinds.map (fun k => NLM.ownW k (i : Int) + NLM.bestC T' k.1 (i : Int) (NLM.rowsN T' i))).map V.int))) l = none := (upd_ne hll).trans a1
        have hlen := hpr.len
        rw [NLM.rowsN_len] at hlen
        refine ⟨_, rfl, .inl ⟨rfl, _, SqL.of a3⟩, _, rfl, l, vs, _, rfl, rfl, a3, sz_lt (by omega), ?_⟩
        exact ⟨_, (G3.keep a2 h2 a4).mut a1' hl, a1', ⟨_, upd_same, Pr.snoc ⟨l2, rfl, SqL.of upd_same⟩ (Pr.mono mono_LI (eN.trans (ex_upd a2)) hpr)⟩, _, _, _, rfl⟩
    · rintro σ' H' ⟨N', G, hNl, ⟨vs, hHl, hpr⟩, u, w', x, rfl⟩
      rw [show ((n : Int) + 1).toNat = n + 1 by omega] at hpr
      exact ⟨_, rfl, q.go (G.keep hNl hl hHl) ⟨l, vs, rfl, SqL.of upd_same, Pr.mono mono_LI (ex_upd hNl) hpr⟩⟩
theorem ok_demands {P : Program} {w : World} {K : PySem.W.Frag} {mg : Str → Option Value} {base : Heap} {CT CS CB : Addr} {f : Addr} {fd : FuncData} (F : Fun K "demands" "demands" s_demands f fd) (T : Tx K mg CT CS CB) {f_rows : Addr} {fd_rows : FuncData} (C_rows : CalF P w K mg base "rows" 4 P_rows (sp_rows K CT) f_rows fd_rows) :
    FnOk P w K mg base CX0 5 f fd P_demands (sp_demands K CT) := by
  refine F.ok sc_demands (fun vs H Q E h => ?_) (fun cdv A outer s H vs Q E hr h => ?_)
  · obtain ⟨B, tv, T', n, rfl, _⟩ := h
    rfl
  · obtain ⟨B, tv, T', n, rfl, e, hT, hok, hn, q⟩ := h
    refine ⟨_, (pss_one (ps_ret (pe_lc (own := [("row", 2)])  rfl sc_demands.nd  (pi_list (pe_call C_rows.ok (hr.mono (by decide)) rfl C_rows.g C_rows.kp C_rows.b .nil pass0 (pa_cons (pv 0) (pa_cons (pv 1) pa_nil)))) (blkOk_by (N := N_demands) (sc := defScope s_demands) (by decide +kernel)) (fun _ _ _ _ _ => pg_name (i := 2) sc_demands.nd rfl (Or.inl rfl)) (fun _ _ _ _ _ => pts_nil) (fun _ _ _ _ _ => (pe_callB (cr_maxK K rfl) rfl T.max boot_max (pa_cons (pv 2) pa_nil)))))), ?_⟩
    walk_at "go"
    refine ⟨B, _, T', n, rfl, e, hT, hok, hn, fun v N1 H1 G1 r1 => ?_⟩
    obtain ⟨ra, rvs, rfl, hra, hrr⟩ := r1
    refine ⟨ra, rfl, ⟨_, ex_l G1.eH hra⟩, ?_⟩
    refine lc_LR mono_I G1 hra hrr (fun _ => true) NLM.maxL (by rw [NLM.rowsN_len]; omega) ?_ ?_
    · intro row v N' H' hx ⟨a, hv, ha⟩ eN G
      subst hv
      intro Nn Y hn' hy
      refine ⟨rfl, _, rfl, a, row, rfl, ex_l (eN.trans G.eH) ha, ?_, fun m hm hle => ?_⟩
      · rw [NLM.rowsN_range] at hx
        obtain ⟨i, _, rfl⟩ := List.mem_map.mp hx
        rw [NLM.rowOf_len]
        exact hok.k.ne
      · rw [NLM.maxL_eq hm hle] at hy
        exact hy rfl _ _ _ (Sg.refl G.eH) rfl
    · intro v N' H' eN G r
      refine q.go G (LI.of ?_)
      rw [filtT, NLM.rowsN_range, List.map_map] at r
      exact r
theorem ok_system_demands {P : Program} {w : World} {K : PySem.W.Frag} {mg : Str → Option Value} {base : Heap} {CT CS CB : Addr} {f : Addr} {fd : FuncData} (F : Fun K "system_demands" "system_demands" s_system_demands f fd) (T : Tx K mg CT CS CB) {f_demands : Addr} {fd_demands : FuncData} (C_demands : CalF P w K mg base "demands" 5 P_demands (sp_demands K CT) f_demands fd_demands) :
    FnOk P w K mg base CX0 6 f fd P_system_demands (sp_system_demands K CT CS) := by
  refine F.ok sc_system_demands (fun vs H Q E h => ?_) (fun cdv A outer s H vs Q E hr h => ?_)
  · obtain ⟨B, sv, Ts, tb, n, rfl, _⟩ := h
    rfl
  · obtain ⟨B, sv, Ts, tb, n, rfl, e, hS, hok, hn, q⟩ := h
    refine ⟨_, (pss_cons (ps_setLc (i := 2) (own := [("_", 4)])  rfl sc_system_demands.nd rfl rfl (sw_true rfl rfl rfl (by decide +kernel)) (pi_range1 rfl T.range (pa_cons (pe_op op_add (pv 1) pe_int) pa_nil)) (blkOk_by (N := N_system_demands) (sc := defScope s_system_demands) (by decide +kernel)) (fun _ _ _ _ _ => pg_name (i := 4) sc_system_demands.nd rfl (Or.inl rfl)) (fun _ _ _ _ _ => pts_nil) (fun _ _ _ _ _ => pe_int))
    (pss_cons (ps_for PassesOwn.never rfl (pi_tup (pe_fld (pv 0) rfl)) (pg_name (i := 3) sc_system_demands.nd rfl (Or.inl rfl)) (pss_one (ps_for PassesOwn.never rfl (pi_enum rfl T.enumerate (pa_cons (pe_call C_demands.ok (hr.mono (by decide)) rfl C_demands.g C_demands.kp C_demands.b .nil pass0 (pa_cons (pv 3) (pa_cons (pv 1) pa_nil))) pa_nil)) (pg_tup rfl (pgs_cons (pg_name (i := 5) sc_system_demands.nd rfl (Or.inl rfl)) (pgs_cons (pg_name (i := 6) sc_system_demands.nd rfl (Or.inl rfl)) pgs_nil))) (pss_one (ps_augS (pv 2) (pv 5) pget_list (pv 6) ip_add set_list)))))
    (pss_one (ps_ret (pv 2))))), ?_⟩
    obtain ⟨sp, sdx, sfs, tv, bv, rfl, hsp, htv, hbv, ⟨ta, tvs, rfl, hta, htr⟩, ⟨ba, rfl, hba⟩⟩ := id hS
    have hsp' := e _ _ hsp
    dsimp only [tSeq, tAsg]
    refine tlc_RRm mono_I (n + 1) (fun R r => ⟨_, rfl, _, _, rfl, rfl, _, rfl, by omega, by omega, (by rw [show ((n : Int) + 1).toNat = n + 1 by omega]; exact r)⟩) (Sg.refl e) (fun _ => 0) (by omega) ?_ ?_
    · intro i N' H' hi eN G Nn Y hn hy
      exact ⟨rfl, hy rfl _ _ _ (Sg.refl G.eH) rfl⟩
    · rintro D H1 ⟨N1, eN1, G, hND, hHD, acc, hD, hpr⟩
      have := hpr.ints
      subst this
      have htS : ∀ k, NLM.total (Ts.take 0) k = 0 := fun k => rfl
      refine ⟨_, rfl, sp, CS, sdx, sfs, _, rfl, G.e0 _ _ hsp', T.clSystem, T.naSystem_tasks, htv, ta, rfl, ⟨_, ex_t (G.eN.trans G.eH) hta⟩, ?_⟩
      refine for_TR hta htr (fun i σ' H' => ∃ N', Sg B H N' H' ∧ N' D = none ∧ H' D = some (.lst (((List.range (n + 1)).map fun k => NLM.total (Ts.take i) k).map V.int)) ∧ ∃ u w x y, σ' = [some (.ref sp), some (.int (n : Int)), some (.ref D), u, w, x, y]) ⟨N1, G, hND, hD, _, _, _, _, rfl⟩ (fun i σ' H' ⟨N', G', _⟩ => G'.eN.trans G'.eH) ?_ ?_
      · rintro i T0 v σ' H' hx hT ⟨N', G', hN'D, hD', u, w, x, y, rfl⟩
        walk_at "go"
        refine ⟨N', v, T0, n, rfl, G'.eH, mono_T _ _ _ _ G'.eN hT, hok.t T0 (List.mem_of_getElem? hx), hn, fun v2 N2 H2 G2 r2 => ?_⟩
        obtain ⟨da, rfl, hda⟩ := r2
        obtain ⟨hN2D, hD2⟩ := G2.away hN'D hD'
        have hda2 := ex_l G2.eH hda
        refine ⟨da, _, rfl, hda2, ?_⟩
        refine for_it walk_enum (fun j σ2 H3 => ∃ N3, Ex N2 N3 ∧ Sg B H N3 H3 ∧ N3 D = none ∧ H3 D = some (.lst (((List.range (n + 1)).map fun k => NLM.total (Ts.take i) k + if k < j then NLM.demand T0 k else 0).map V.int)) ∧ ∃ x y, σ2 = [some (.ref sp), some (.int (n : Int)), some (.ref D), some v, w, x, y])
          ⟨N2, Ex.refl _, G'.trans G2, hN2D, ?_, _, _, rfl⟩ (fun j σ2 H3 _ ⟨N3, e3, G3, _⟩ => ex_l (e3.trans G3.eH) hda) ?_ ?_
        · rw [hD2]
          congr 3
          refine List.map_congr_left fun k _ => ?_
          rw [if_neg (Nat.not_lt_zero k), Int.add_zero]
        · rintro j v3 σ2 H3 H4 hj ⟨N3, e3, G3, hN3D, hD3, x, y, rfl⟩ ⟨Tp, x1, x2, rfl, hf, rfl, h1, h2⟩
          cases h1
          rw [List.length_map, List.length_map, List.length_range] at hj
          dsimp only at h2
          rw [List.getElem?_map, List.getElem?_map, List.getElem?_range hj] at h2
          cases h2
          have G4 := G3.new (o := .tup [.int (j : Int), .int (NLM.demand T0 j)]) hf
          have hTD : D ≠ Tp := fun h => by rw [← h, hD3] at hf; cases hf
          have hD4 := (upd_ne (o := .tup [.int (j : Int), .int (NLM.demand T0 j)]) hTD).trans hD3
          have hN4 := (upd_ne (o := .tup [.int (j : Int), .int (NLM.demand T0 j)]) hTD).trans hN3D
          refine ⟨Tp, _, rfl, SqT.of upd_same, rfl, _, _, rfl, _, _, rfl, rfl, ?_⟩
          have hg1 : (((List.range (n + 1)).map fun k => NLM.total (Ts.take i) k + if k < j then NLM.demand T0 k else 0).map V.int)[j]? = some (.int (NLM.total (Ts.take i) j + 0)) := by
            rw [List.getElem?_map, List.getElem?_map, List.getElem?_range hj]
            show some (V.int (_ + if j < j then _ else 0)) = _
            rw [if_neg (Nat.lt_irrefl j)]
          refine ⟨_, rfl, _, rfl, D, _, j, _, rfl, rfl, SqL.of hD4, hg1, _, rfl, _, _, rfl, rfl, D, _, _, j, rfl, rfl, hD4, ?_, ?_⟩
          · rw [List.length_map, List.length_map, List.length_range, ixN, if_pos (by omega), if_pos (by omega)]
            rfl
          · refine ⟨_, e3.trans (Ex.new (G3.free hf).1), G4.mut hN4 hHD, hN4, ?_, _, _, rfl⟩
            rw [upd_same]
            congr 2
            refine List.ext_getElem? fun k => ?_
            rw [List.getElem?_set]
            by_cases hk : j = k
            · subst hk
              rw [if_pos rfl, if_pos (by rw [List.length_map, List.length_map, List.length_range]; exact hj), List.getElem?_map, List.getElem?_map, List.getElem?_range hj]
              show some (V.int (_ + 0 + _)) = some (V.int (_ + if j < j + 1 then _ else 0))
              rw [if_pos (Nat.lt_succ_self j), Int.add_zero]
            · rw [if_neg hk]
              simp only [List.getElem?_map]
              by_cases hkn : k < n + 1
              · rw [List.getElem?_range hkn]
                show some (V.int (_ + if k < j then _ else 0)) = some (V.int (_ + if k < j + 1 then _ else 0))
                by_cases c : k < j
                · rw [if_pos c, if_pos (Nat.lt_succ_of_lt c)]
                · rw [if_neg c, if_neg (by omega)]
              · rw [List.getElem?_eq_none (by rw [List.length_range]; omega)]
                rfl
        · rintro σ2 H3 ⟨N3, e3, G3, hN3D, hD3, x, y, rfl⟩
          refine ⟨N3, G3, hN3D, ?_, _, _, _, _, rfl⟩
          rw [hD3]
          congr 3
          refine List.map_congr_left fun k hk => ?_
          rw [List.length_map, List.length_map, List.length_range, if_pos (List.mem_range.mp hk), take_succ_get hx, NLM.total_snoc]
      · rintro σ' H' ⟨N', G', hN'D, hD', u, w, x, y, rfl⟩
        rw [List.take_length] at hD'
        exact ⟨_, rfl, q.go (G'.keep hN'D hHD hD') ⟨D, rfl, SqL.of upd_same⟩⟩
theorem ok_best_step {P : Program} {w : World} {K : PySem.W.Frag} {mg : Str → Option Value} {base : Heap} {CT CS CB : Addr} {f : Addr} {fd : FuncData} (F : Fun K "best_step" "best_step" s_best_step f fd) (T : Tx K mg CT CS CB) {f_Task_ways_from : Addr} {fd_Task_ways_from : FuncData} {f_Task_kind_number : Addr} {fd_Task_kind_number : FuncData} (C_Task_ways_from : CalM P w K mg base CT "ways_from" 2 P_Task_ways_from (sp_Task_ways_from K CT) f_Task_ways_from fd_Task_ways_from) (C_Task_kind_number : CalM P w K mg base CT "kind_number" 1 P_Task_kind_number (sp_Task_kind_number K CT) f_Task_kind_number fd_Task_kind_number) :
    FnOk P w K mg base CX0 3 f fd P_best_step (sp_best_step K CT) := by
  refine F.ok sc_best_step (fun vs H Q E h => ?_) (fun cdv A outer s H vs Q E hr h => ?_)
  · obtain ⟨B, tv, T', nm, n, fv, m, rfl, _⟩ := h
    rfl
  · obtain ⟨B, tv, T', nm, n, fv, m, rfl, e, hT, hok, hmem, ⟨fa, rs, rfl, hfa0, hfr⟩, hnm, hm, q⟩ := h
    refine ⟨_, (pss_cons (ps_set (i := 4) sc_best_step.nd rfl (Or.inl rfl) pe_int)
    (pss_cons (ps_set (i := 5) sc_best_step.nd rfl (Or.inl rfl) pe_non)
    (pss_cons (ps_for PassesOwn.never rfl (pi_list (pe_meth (pv 0) T.clTask C_Task_ways_from.me C_Task_ways_from.ok (hr.mono (by decide)) C_Task_ways_from.b .nil pass0 (pa_cons (pv 1) pa_nil))) (pg_tup rfl (pgs_cons (pg_name (i := 6) sc_best_step.nd rfl (Or.inl rfl)) (pgs_cons (pg_name (i := 7) sc_best_step.nd rfl (Or.inl rfl)) pgs_nil))) (pss_one (ps_if (pt_cmpR op_le (pv 7) (pv 2) (nomark _)) (pss_cons (ps_set (i := 8) sc_best_step.nd rfl (Or.inl rfl) (pe_meth (pv 0) T.clTask C_Task_kind_number.me C_Task_kind_number.ok (hr.mono (by decide)) C_Task_kind_number.b .nil pass0 (pa_cons (pv 6) pa_nil)))
    (pss_cons (ps_set (i := 9) sc_best_step.nd rfl (Or.inl rfl) (pe_ix ix_list (pe_ix ix_list (pv 3) (pe_op op_sub (pv 2) (pv 7)) (fun _ _ => rfl)) (pv 8) (fun _ _ => rfl)))
    (pss_one (ps_if (pt_cmpR op_gt (pv 9) (pv 4) (nomark _)) (pss_cons (ps_set (i := 4) sc_best_step.nd rfl (Or.inl rfl) (pv 9))
    (pss_one (ps_set (i := 5) sc_best_step.nd rfl (Or.inl rfl) (pe_tup (pa_cons (pv 8) (pa_cons (pv 7) pa_nil)))))) pss_nil)))) pss_nil)))
    (pss_one (ps_ret (pv 5)))))), ?_⟩
    obtain ⟨p, dx, fs, kv, wv, rfl, hp, hnm', hk, hw, hkn, hwf, hkr, hwr'⟩ := id hT
    have hp' := e _ _ hp
    have hfa := ex_l e hfa0
    have hdis : ∀ w ∈ T'.ways, 1 ≤ w.2.2 := fun w hw => (hok.w.d w hw).1
    refine ⟨_, rfl, p, dx, fs, rfl, hp', hwf, _, rfl, B, _, T', nm, rfl, e, hT, hok, hmem, fun v N1 H1 G1 r1 => ?_⟩
    obtain ⟨wa, wvs, rfl, hwa, hwr⟩ := r1
    refine ⟨wa, rfl, ⟨wvs, ex_l G1.eH hwa⟩, ?_⟩
    refine for_LR hwa hwr (fun i σ' H' => ∃ N2, Sg N1 H1 N2 H' ∧ ∃ st sv, NLM.StepOk T' nm n (((NLM.waysFrom T' nm).take i).foldl (NLM.bstep T' n) 0) st ∧ rSt K st sv N2 ∧ ∃ u w x y, σ' = [some (.ref p), some (.str nm), some (.int (n : Int)), some (.ref fa), some (.int (((NLM.waysFrom T' nm).take i).foldl (NLM.bstep T' n) 0)), some sv, u, w, x, y]) ⟨N1, .refl G1.eH, none, .non, rfl, rfl, _, _, _, _, rfl⟩ (fun i σ' H' ⟨N2, G2, _⟩ => G2.eN.trans G2.eH) ?_ ?_
    · rintro i ⟨t, d⟩ v σ' H' hx ⟨xa, rfl, hxa⟩ ⟨N2, G2, st, sv, hst, hsv, u, w, x, y, rfl⟩
      have hxa' := ex_t (G2.eN.trans G2.eH) hxa
      have hxm := List.mem_of_getElem? hx
      have hd1 := NLM.mem_from_d hdis hxm
      dsimp only at hd1
      have htm := NLM.mem_from_t hok.w.t hxm
      obtain ⟨wy, hw1, hw2, hw3⟩ := NLM.mem_from.mp hxm
      generalize hb0 : ((NLM.waysFrom T' nm).take i).foldl (NLM.bstep T' n) 0 = b0 at hst
      have hb1 : ((NLM.waysFrom T' nm).take (i + 1)).foldl (NLM.bstep T' n) 0 = NLM.bstep T' n b0 (t, d) := by
        rw [take_succ_get hx, List.foldl_append, List.foldl_cons, List.foldl_nil, hb0]
      have hb0p : 0 ≤ b0 := by
        cases st with
        | none => exact Int.le_of_eq hst.symm
        | some s0 => exact Int.le_of_lt hst.1
      refine ⟨xa, _, rfl, hxa', rfl, _, _, rfl, _, _, rfl, rfl, ?_⟩
      walk_at "go"
      refine ited (fun c => ?_) (fun c => ?_)
      · have hj : (((n : Int) - d).toNat : Int) = (n : Int) - d := Int.toNat_of_nonneg (by omega)
        obtain ⟨rv, hrv, ra, rfl, hra⟩ := hfr.get (NLM.rowsN_get T' (n := m) (i := ((n : Int) - d).toNat) (by omega))
        have eBH := e.trans (G1.e0.trans G2.e0)
        refine ⟨_, rfl, p, dx, fs, rfl, eBH _ _ hp, hkn, _, rfl, B, _, T', t, rfl, eBH, hT, htm, fun H3 e3 => ?_⟩
        have hg : ((NLM.rowOf T' ((n : Int) - d).toNat).map V.int)[NLM.kn T'.kinds t]? = some (.int (NLM.num T' (NLM.kn T'.kinds t) ((n : Int) - d).toNat)) := by
          rw [List.getElem?_map, NLM.row_get _ (NLM.kn_lt htm)] <;> rfl
        walk_at "go"
        refine ⟨fa, rs, _, _, rfl, rfl, ex_l ((G1.e0.trans G2.e0).trans e3) hfa, atI_of hj.symm hrv, ?_⟩
        walk_at "go"
        refine ⟨ra, _, _, _, rfl, rfl, ex_l (eBH.trans e3) hra, atI_of rfl hg, ?_⟩
        walk_at "go"
        have hmax : ∀ x y : Int, x < y → max x y = y := fun x y h => by omega
        have hmin : ∀ x y : Int, ¬ x < y → max x y = x := fun x y h => by omega
        refine ited (fun c2 => ?_) (fun c2 => ?_)
        · walk_at "go"
          refine ⟨sz2, fun l hl => ?_⟩
          refine ⟨_, (G2.ext e3).new hl, some (NLM.kn T'.kinds t, d), .ref l, ?_, ⟨l, rfl, SqT.of upd_same⟩, some (.str t), some (.int d), some (.int (NLM.kn T'.kinds t : Nat)), some (.int (NLM.num T' (NLM.kn T'.kinds t) ((n : Int) - d).toNat)), ?_⟩
          · rw [hb1, NLM.bstep, if_pos c, hmax _ _ c2]
            have e1 : t = wy.2.1 := congrArg Prod.fst hw3
            have e2 : d = wy.2.2 := congrArg Prod.snd hw3
            exact ⟨by omega, wy, hw1, hw2, by rw [e1], e2.symm, c, rfl⟩
          · rw [hb1, NLM.bstep, if_pos c, hmax _ _ c2]
            rfl
        · refine ⟨N2, G2.ext e3, st, sv, ?_, hsv, some (.str t), some (.int d), some (.int (NLM.kn T'.kinds t : Nat)), some (.int (NLM.num T' (NLM.kn T'.kinds t) ((n : Int) - d).toNat)), ?_⟩
          · rw [hb1, NLM.bstep, if_pos c, hmin _ _ c2]
            exact hst
          · rw [hb1, NLM.bstep, if_pos c, hmin _ _ c2]
            rfl
      · refine ⟨N2, G2, st, sv, ?_, hsv, some (.str t), some (.int d), x, y, ?_⟩
        · rw [hb1, NLM.bstep, if_neg c]
          exact hst
        · rw [hb1, NLM.bstep, if_neg c]
          rfl
    · rintro σ' H' ⟨N2, G2, st, sv, hst, hsv, u, w, x, y, rfl⟩
      rw [List.take_length, ← NLM.bestC_num hdis] at hst
      walk_at "go"
      exact (q st hst).go (G1.trans G2) hsv
theorem ok_heaviest {P : Program} {w : World} {K : PySem.W.Frag} {mg : Str → Option Value} {base : Heap} {CT CS CB : Addr} {f : Addr} {fd : FuncData} (F : Fun K "heaviest" "heaviest" s_heaviest f fd) (T : Tx K mg CT CS CB) {f_rows : Addr} {fd_rows : FuncData} {f_best_step : Addr} {fd_best_step : FuncData} (C_rows : CalF P w K mg base "rows" 4 P_rows (sp_rows K CT) f_rows fd_rows) (C_best_step : CalF P w K mg base "best_step" 3 P_best_step (sp_best_step K CT) f_best_step fd_best_step) :
    FnOk P w K mg base CX0 5 f fd P_heaviest (sp_heaviest K CT) := by
  refine F.ok sc_heaviest (fun vs H Q E h => ?_) (fun cdv A outer s H vs Q E hr h => ?_)
  · obtain ⟨B, tv, T', n, rfl, _⟩ := h
    rfl
  · obtain ⟨B, tv, T', n, rfl, e, hT, hok, h1, hn1, hn, q⟩ := h
    refine ⟨_, (pss_cons (ps_set (i := 2) sc_heaviest.nd rfl (Or.inl rfl) (pe_call C_rows.ok (hr.mono (by decide)) rfl C_rows.g C_rows.kp C_rows.b .nil pass0 (pa_cons (pv 0) (pa_cons (pv 1) pa_nil))))
    (pss_cons (ps_set (i := 3) sc_heaviest.nd rfl (Or.inl rfl) (pe_callB (cr_max rfl) rfl T.max boot_max (pa_cons (pe_ix ix_list (pv 2) (pv 1) (fun _ _ => rfl)) pa_nil)))
    (pss_cons (ps_if (pt_cmpR op_eq (pv 3) pe_int (nomark _)) (pss_one (ps_ret (pe_lst pa_nil))) pss_nil)
    (pss_cons (ps_set (i := 4) sc_heaviest.nd rfl (Or.inl rfl) (pe_bm PySem.F.plainAttrs_list PySem.F.slot_list_index PySem.F.type_list_index mt_index (pe_ix ix_list (pv 2) (pv 1) (fun _ _ => rfl)) (pa_cons (pv 3) pa_nil)))
    (pss_cons (ps_set (i := 5) sc_heaviest.nd rfl (Or.inl rfl) pe_int)
    (pss_cons (ps_set (i := 6) sc_heaviest.nd rfl (Or.inl rfl) (pe_lst (pa_cons (pe_tup (pa_cons pe_int (pa_cons (pe_ix ix_tup (pe_ix ix_tup (pe_fld (pv 0) rfl) (pv 4) (fun _ _ => rfl)) pe_int (fun _ _ => rfl)) pa_nil))) pa_nil)))
    (pss_one (ps_while PassesOwn.never (pt_val pe_bl) (pss_cons (ps_set (i := 7) sc_heaviest.nd rfl (Or.inl rfl) (pe_call C_best_step.ok (hr.mono (by decide)) rfl C_best_step.g C_best_step.kp C_best_step.b .nil pass0 (pa_cons (pv 0) (pa_cons (pe_ix ix_tup (pe_ix ix_tup (pe_fld (pv 0) rfl) (pv 4) (fun _ _ => rfl)) pe_int (fun _ _ => rfl)) (pa_cons (pe_op op_sub (pv 1) (pv 5)) (pa_cons (pv 2) pa_nil))))))
    (pss_cons (ps_if (pt_cmpR op_isN (pv 7) pe_non (nomark _)) (pss_one (ps_ret (pv 6))) pss_nil)
    (pss_cons (ps_asg (pv 7) (pg_tup rfl (pgs_cons (pg_name (i := 4) sc_heaviest.nd rfl (Or.inl rfl)) (pgs_cons (pg_name (i := 8) sc_heaviest.nd rfl (Or.inl rfl)) pgs_nil))))
    (pss_cons (ps_aug (i := 5) sc_heaviest.nd rfl (Or.inl rfl) (pv 8) ip_add)
    (pss_one (ps_expr (pe_bm PySem.F.plainAttrs_list PySem.F.slot_list_append PySem.F.type_list_append mt_append (pv 6) (pa_cons (pe_tup (pa_cons (pv 5) (pa_cons (pe_ix ix_tup (pe_ix ix_tup (pe_fld (pv 0) rfl) (pv 4) (fun _ _ => rfl)) pe_int (fun _ _ => rfl)) pa_nil))) pa_nil)))))))))))))))), ?_⟩
    obtain ⟨p, dx, fs, kv, wv, rfl, hp, hnm, hk, hw, hkn, hwf, ⟨ka, kvs, rfl, hka, hkr⟩, hwr⟩ := id hT
    have W := hok.wf h1
    refine ⟨_, rfl, _, rfl, B, _, T', n, rfl, e, hT, hok, by omega, fun v N1 H1 G1 r1 => ?_⟩
    obtain ⟨ra, rvs, rfl, hra, hrr⟩ := id r1
    obtain ⟨rv, hrv, r0, rfl, hr0⟩ := hrr.get (NLM.rowsN_get T' (n := n + 1) (i := n) (by omega))
    have hra1 := ex_l G1.eH hra
    have hr01 := ex_l G1.eH hr0
    have hrl : (NLM.rowOf T' n).length = T'.kinds.length := NLM.rowOf_len T' n
    have hkl := hok.k.ne
    refine ⟨_, rfl, _, rfl, ra, rvs, _, _, rfl, rfl, hra1, atI_of rfl hrv, r0, _, rfl, hr01, by omega, fun m hm hle => ?_⟩
    obtain rfl : m = NLM.demand T' n := (NLM.maxL_eq hm hle).symm
    refine ⟨_, rfl, rfl, _, rfl, ?_⟩
    refine ited (fun c => ?_) (fun c => ?_)
    · injection c with c
      refine ⟨sz0, fun l hl => ?_⟩
      exact (q [] ⟨trivial, (fun _ h => by cases h), c.symm⟩ (by decide)).go (G1.new hl) ⟨l, [], rfl, SqL.of upd_same, .nil⟩
    obtain ⟨j, hj, hjf⟩ := first_at hm
    have hgj : ((NLM.rowOf T' n).map V.int)[j]? = some (.int (NLM.demand T' n)) := by
      rw [List.getElem?_map, hj] <;> rfl
    refine ⟨_, rfl, _, rfl, ra, rvs, _, _, rfl, rfl, hra1, atI_of rfl hrv, .inl ⟨rfl, _, hr01⟩, _, rfl, r0, _, _, j, _, rfl, rfl, hr01, rfl, flat_ints _, hgj, beq_self_eq_true (NLM.demand T' n), ?_, ?_⟩
    · intro m' z' hm' hz'
      rw [List.getElem?_map] at hz'
      obtain ⟨y, hy, rfl⟩ := Option.map_eq_some_iff.mp hz'
      exact beq_eq_false_iff_ne.mpr (hjf m' y hm' hy)
    have hjl : j < T'.kinds.length := by rw [← hrl]; exact (List.getElem?_eq_some_iff.mp hj).1
    obtain ⟨k0, hk0⟩ : ∃ k0, T'.kinds[j]? = some k0 := ⟨_, List.getElem?_eq_getElem hjl⟩
    have hnum : NLM.num T' j n = NLM.demand T' n := by
      unfold NLM.num
      rw [List.getD_eq_getElem?_getD, hj] <;> rfl
    obtain ⟨kv0, hkv0, ka0, rfl, hka0⟩ := hkr.get hk0
    have eB1 := G1.eN.trans G1.eH
    refine ⟨_, rfl, p, CT, dx, fs, _, rfl, eB1 _ _ hp, T.clTask, T.naTask_kinds, hk, _, rfl, ka, kvs, _, _, rfl, rfl, ex_t eB1 hka, atI_of rfl hkv0, ka0, _, _, _, rfl, rfl, ex_t eB1 hka0, rfl, ?_⟩
    refine ⟨sz2, fun l0 hl0 => ⟨sz1, fun l hl => ?_⟩⟩
    have G2 := G1.new (o := .tup [.int 0, .str k0.1]) hl0
    obtain ⟨hNl, hHl⟩ := G2.free hl
    have G3 := G2.mut (o := .lst [.ref l0]) hNl hHl
    refine ⟨fun m σ' H' => ∃ N' time num L vs u w, m = n - time ∧ Sg B H N' H' ∧ Ex N1 N' ∧ N' l = none ∧ H' l = some (.lst vs) ∧ Pr (rRel K) N' L vs ∧ NLM.Heavy T' n num time L ∧ L.length ≤ time + 1 ∧
      σ' = [some (.ref p), some (.int (n : Int)), some (.ref ra), some (.int (NLM.demand T' n)), some (.int ((num : Nat) : Int)), some (.int ((time : Nat) : Int)), some (.ref l), u, w],
      ⟨n, _, 0, j, [(0, k0.1)], _, _, _, rfl, G3, ex_upd (G1.free hl0).1, hNl, upd_same, .cons ⟨l0, rfl, SqT.of upd_same⟩ .nil, NLM.heavy_start W hn1 hk0 hnum, Nat.le_refl 1, rfl⟩, ?_⟩
    rintro m σ' H' ⟨N', time, num, L, vs, u, w, rfl, G, eN, hN'l, hH'l, hpr, hv, hlen, rfl⟩
    refine ⟨_, rfl, ?_⟩
    obtain ⟨_, k1, _, hk1, _⟩ := hv.last
    have hlt := hv.lt
    obtain ⟨kv1, hkv1, ka1, rfl, hka1⟩ := hkr.get hk1
    have eB := G.eN.trans G.eH
    refine ⟨fun σ2 H2 => ∃ m', m' < n - time ∧ ∃ N' time num L vs u w, m' = n - time ∧ Sg B H N' H2 ∧ Ex N1 N' ∧ N' l = none ∧ H2 l = some (.lst vs) ∧ Pr (rRel K) N' L vs ∧ NLM.Heavy T' n num time L ∧ L.length ≤ time + 1 ∧
      σ2 = [some (.ref p), some (.int (n : Int)), some (.ref ra), some (.int (NLM.demand T' n)), some (.int ((num : Nat) : Int)), some (.int ((time : Nat) : Int)), some (.ref l), u, w], fun σ2 H2 h => h, ?_⟩
    refine ⟨_, rfl, _, rfl, p, CT, dx, fs, _, rfl, eB _ _ hp, T.clTask, T.naTask_kinds, hk, _, rfl, ka, kvs, _, _, rfl, rfl, ex_t eB hka, atI_of rfl hkv1, ka1, _, _, _, rfl, rfl, ex_t eB hka1, rfl, ?_⟩
    walk_at "go"
    refine ⟨N', _, T', k1.1, n - time, _, n + 1, ?_, G.eH, mono_T _ _ _ _ G.eN hT, hok, List.mem_map_of_mem (List.mem_of_getElem? hk1), mono_LR mono_LI _ _ _ _ eN r1, by omega, by omega, fun st hst v3 N3 H3 G3 r3 => ?_⟩
    · show [V.ref p, V.str k1.1, V.int ((n : Int) - (time : Int)), V.ref ra] = _
      rw [show (n : Int) - (time : Int) = ((n - time : Nat) : Int) by omega]
    obtain ⟨hN3l, hH3l⟩ := G3.away hN'l hH'l
    have G4 := G.trans G3
    have eB3 := G4.eN.trans G4.eH
    cases st with
    | none =>
      cases r3
      refine ⟨_, rfl, rfl, _, rfl, ?_⟩
      refine ited (fun c => ?_) (fun c => absurd rfl c)
      refine ⟨_, rfl, ?_⟩
      exact (q L (NLM.heavy_end W hv hk1 hst) (by omega)).go (G4.keep hN3l hHl hH3l) ⟨l, vs, rfl, SqL.of upd_same, Pr.mono mono_Rel (G3.eN.trans (ex_upd hN3l)) hpr⟩
    | some jd =>
      obtain ⟨j2, d2⟩ := jd
      obtain ⟨sa, rfl, hsa⟩ := r3
      obtain ⟨k2, hk2, hd2, hv2⟩ := NLM.heavy_turn W hv hk1 hst
      obtain ⟨kv2, hkv2, ka2, rfl, hka2⟩ := hkr.get hk2
      refine ⟨_, rfl, rfl, _, rfl, ?_⟩
      refine ited (fun c => by cases c) (fun c => ?_)
      refine ⟨_, rfl, sa, _, rfl, ex_t G4.eH hsa, rfl, _, _, rfl, _, _, rfl, rfl, ?_⟩
      refine ⟨_, rfl, _, rfl, _, _, rfl, rfl, ?_⟩
      refine ⟨_, rfl, .inl ⟨rfl, _, SqL.of hH3l⟩, _, rfl, _, rfl, p, CT, dx, fs, _, rfl, eB3 _ _ hp, T.clTask, T.naTask_kinds, hk, _, rfl, ka, kvs, _, _, rfl, rfl, ex_t eB3 hka, atI_of rfl hkv2, ka2, _, _, _, rfl, rfl, ex_t eB3 hka2, rfl, ?_⟩
      refine ⟨sz2, fun l2 hl2 => ?_⟩
      have hll : l ≠ l2 := fun h => by rw [← h, hH3l] at hl2; cases hl2
      have G5 := G4.new (o := .tup [.int ((time : Int) + d2), .str k2.1]) hl2
      have hvl := hpr.len
      have hH5l := (upd_ne (o := .tup [.int ((time : Int) + d2), .str k2.1]) hll).trans hH3l
      have hN5l := (upd_ne (o := .tup [.int ((time : Int) + d2), .str k2.1]) hll).trans hN3l
      refine ⟨l, _, _, rfl, rfl, hH5l, sz_lt (by omega), ?_⟩
      have ht : ((time + d2.toNat : Nat) : Int) = (time : Int) + d2 := by omega
      have hv2lt := hv2.lt
      refine ⟨n - (time + d2.toNat), by omega, _, time + d2.toNat, j2, _, _, some (.ref sa), some (.int d2), rfl, G5.mut hN5l hHl, eN.trans (G3.eN.trans (ex_upd (G4.free hl2).1)), hN5l, upd_same, Pr.snoc ⟨l2, rfl, SqT.of upd_same⟩ (Pr.mono mono_Rel (G3.eN.trans (ex_upd (G4.free hl2).1)) hpr), hv2, ?_, ?_⟩
      · rw [List.length_append, List.length_singleton]
        omega
      · rw [ht]
        rfl
theorem ok_Task_latest_deadline {P : Program} {w : World} {K : PySem.W.Frag} {mg : Str → Option Value} {base : Heap} {CT CS CB : Addr} {f : Addr} {fd : FuncData} (F : Fun K "latest_deadline" "Task.latest_deadline" s_Task_latest_deadline f fd) (T : Tx K mg CT CS CB)  :
    FnOk P w K mg base CX0 2 f fd P_Task_latest_deadline (sp_Task_latest_deadline K CT) := by
  refine F.ok sc_Task_latest_deadline (fun vs H Q E h => ?_) (fun cdv A outer s H vs Q E hr h => ?_)
  · obtain ⟨B, tv, T', rfl, _⟩ := h
    rfl
  · obtain ⟨B, tv, T', rfl, e, hT, hok, h1, q⟩ := h
    obtain ⟨p, dx, fs, kv, wv, rfl, hp, hnm, hw, hk, hkn, hwf, ⟨wa, wvs, rfl, hwa, hwr⟩, hkr⟩ := id hT
    have hp' := e _ _ hp
    refine ⟨_, (pss_one (ps_ret (pe_callB (cr_max rfl) rfl T.max boot_max (pa_cons (pe_lc (own := [("kind", 1)])  rfl sc_Task_latest_deadline.nd  (pi_tup (pe_fld (pv 0) rfl)) (blkOk_by (N := N_Task_latest_deadline) (sc := defScope s_Task_latest_deadline) (by decide +kernel)) (fun _ _ _ _ _ => pg_name (i := 1) sc_Task_latest_deadline.nd rfl (Or.inl rfl)) (fun _ _ _ _ _ => pts_nil) (fun _ _ _ _ _ => (pe_ix (ix_tupK K) (pv 1) pe_int (fun _ _ => rfl)))) pa_nil)))), ?_⟩
    dsimp only [tRet, tCKw, tCB, tCons]
    refine tlc_TR mono_I (fun R r => ⟨_, rfl, p, CT, dx, fs, _, rfl, hp', T.clTask, T.naTask_kinds, hw, wa, rfl, ⟨_, ex_t e hwa⟩, r⟩) (Sg.refl e) hwa hwr (fun _ => true) (fun w => w.2.2) (Nat.le_trans hok.k.le (by decide)) ?_ ?_
    · intro x v N' H' hx ⟨xa, hv, hxa⟩ eN G
      subst hv
      intro Nn Y hn hy
      have hxa' := ex_t (eN.trans G.eH) hxa
      refine ⟨rfl, ?_⟩
      walk_at "go"
      exact hy rfl _ _ _ (Sg.refl G.eH) rfl
    · intro v N' H' eN G r
      obtain ⟨l, rfl, hl⟩ := LI.of r
      rw [filtT] at hl
      refine ⟨l, _, rfl, ex_l G.eH hl, ?_, fun m hm hle => ?_⟩
      · rw [List.length_map]
        exact hok.k.ne
      · obtain ⟨x, hx, rfl⟩ := List.mem_map.mp hm
        rw [h1 x hx]
        exact q.go G.e0
theorem ok_greatest_deadline {P : Program} {w : World} {K : PySem.W.Frag} {mg : Str → Option Value} {base : Heap} {CT CS CB : Addr} {f : Addr} {fd : FuncData} (F : Fun K "greatest_deadline" "greatest_deadline" s_greatest_deadline f fd) (T : Tx K mg CT CS CB) {p_Task_latest_deadline f_Task_latest_deadline : Addr} {fd_Task_latest_deadline : FuncData} (C_Task_latest_deadline : CalP P w K mg base CT "latest_deadline" 2 P_Task_latest_deadline (sp_Task_latest_deadline K CT) p_Task_latest_deadline f_Task_latest_deadline fd_Task_latest_deadline) :
    FnOk P w K mg base CX0 4 f fd P_greatest_deadline (sp_greatest_deadline K CT CS) := by
  refine F.ok sc_greatest_deadline (fun vs H Q E h => ?_) (fun cdv A outer s H vs Q E hr h => ?_)
  · obtain ⟨B, sv, Ts, tb, rfl, _⟩ := h
    rfl
  · obtain ⟨B, sv, Ts, tb, rfl, e, hS, hok, h1, hne, q⟩ := h
    refine ⟨_, (pss_one (ps_ret (pe_callBK (cr_maxDef rfl (k := 1) (hr.mono (by decide))) rfl T.max boot_max (pa_cons (pe_lc (own := [("task", 1)])  rfl sc_greatest_deadline.nd  (pi_tup (pe_fld (pv 0) rfl)) (blkOk_by (N := N_greatest_deadline) (sc := defScope s_greatest_deadline) (by decide +kernel)) (fun _ _ _ _ _ => pg_name (i := 1) sc_greatest_deadline.nd rfl (Or.inl rfl)) (fun _ _ _ _ _ => pts_nil) (fun _ _ _ _ _ => (pe_prop (pv 1) T.clTask C_Task_latest_deadline.pr C_Task_latest_deadline.ok (hr.mono (by decide)) C_Task_latest_deadline.b .nil pass0 rfl))) pa_nil) (pk_cons pe_int pk_nil)))), ?_⟩
    obtain ⟨sp, sdx, sfs, tv, bv, rfl, hsp, htv, hbv, ⟨ta, tvs, rfl, hta, htr⟩, hbr⟩ := id hS
    have hsp' := e _ _ hsp
    dsimp only [tRet, tCKw, tCB, tCons]
    refine tlc_TR mono_I (fun R r => ⟨_, rfl, sp, CS, sdx, sfs, _, rfl, hsp', T.clSystem, T.naSystem_tasks, htv, ta, rfl, ⟨_, ex_t e hta⟩, r⟩) (Sg.refl e) hta htr (fun _ => true) (fun _ => 1) (Nat.le_trans hok.le (by decide)) ?_ ?_
    · intro x v N' H' hx hT eN G
      obtain ⟨p, dx, fs, kv, wv, hv, hp, _⟩ := id hT
      subst hv
      intro Nn Y hn hy
      refine ⟨rfl, _, rfl, p, dx, fs, rfl, (eN.trans G.eH) _ _ hp, ?_⟩
      exact ⟨B, _, x, rfl, eN.trans G.eH, hT, hok.t x hx, h1 x hx, fun H2 e2 => hy rfl _ _ _ ((Sg.refl G.eH).ext e2) rfl⟩
    · intro v N' H' eN G r
      obtain ⟨l, rfl, hl⟩ := LI.of r
      rw [filtT] at hl
      refine ⟨l, _, 0, rfl, rfl, ex_l G.eH hl, fun e0 => absurd (List.map_eq_nil_iff.mp e0) hne, fun m hm hle => ?_⟩
      obtain ⟨x, hx, rfl⟩ := List.mem_map.mp hm
      exact q.go G.e0
theorem ok_Task_longest_distance {P : Program} {w : World} {K : PySem.W.Frag} {mg : Str → Option Value} {base : Heap} {CT CS CB : Addr} {f : Addr} {fd : FuncData} (F : Fun K "longest_distance" "Task.longest_distance" s_Task_longest_distance f fd) (T : Tx K mg CT CS CB)  :
    FnOk P w K mg base CX0 2 f fd P_Task_longest_distance (sp_Task_longest_distance K CT) := by
  refine F.ok sc_Task_longest_distance (fun vs H Q E h => ?_) (fun cdv A outer s H vs Q E hr h => ?_)
  · obtain ⟨B, tv, T', rfl, _⟩ := h
    rfl
  · obtain ⟨B, tv, T', rfl, e, hT, hok, q⟩ := h
    obtain ⟨p, dx, fs, kv, wv, rfl, hp, hnm, hk, hw, hkn, hwf, hkr, ⟨wa, wvs, rfl, hwa, hwr⟩⟩ := id hT
    have hp' := e _ _ hp
    refine ⟨_, (pss_one (ps_ret (pe_callBK (cr_maxDef rfl (k := 1) (hr.mono (by decide))) rfl T.max boot_max (pa_cons (pe_lc (own := [("way", 1)])  rfl sc_Task_longest_distance.nd  (pi_tup (pe_fld (pv 0) rfl)) (blkOk_by (N := N_Task_longest_distance) (sc := defScope s_Task_longest_distance) (by decide +kernel)) (fun _ _ _ _ _ => pg_name (i := 1) sc_Task_longest_distance.nd rfl (Or.inl rfl)) (fun _ _ _ _ _ => pts_nil) (fun _ _ _ _ _ => (pe_ix (ix_tupK K) (pv 1) pe_int (fun _ _ => rfl)))) pa_nil) (pk_cons pe_int pk_nil)))), ?_⟩
    dsimp only [tRet, tCKw, tCB, tCons]
    refine tlc_TR mono_I (fun R r => ⟨_, rfl, p, CT, dx, fs, _, rfl, hp', T.clTask, T.naTask_ways, hw, wa, rfl, ⟨_, ex_t e hwa⟩, r⟩) (Sg.refl e) hwa hwr (fun _ => true) (fun w => w.2.2) (Nat.le_trans hok.w.le (by decide)) ?_ ?_
    · intro x v N' H' hx ⟨xa, hv, hxa⟩ eN G
      subst hv
      intro Nn Y hn hy
      have hxa' := ex_t (eN.trans G.eH) hxa
      refine ⟨rfl, ?_⟩
      walk_at "go"
      exact hy rfl _ _ _ (Sg.refl G.eH) rfl
    · intro v N' H' eN G r
      obtain ⟨l, rfl, hl⟩ := LI.of r
      refine ⟨l, _, 0, rfl, rfl, ex_l G.eH hl, fun e0 => ?_, fun m hm hle => ?_⟩
      · refine (q 0 (by decide) fun w hw => ?_).go G.e0
        rw [filtT] at e0
        rw [List.map_eq_nil_iff.mp e0] at hw
        cases hw
      · rw [filtT] at hm hle
        obtain ⟨x, hx, rfl⟩ := List.mem_map.mp hm
        have hd := hok.w.d x hx
        have hn : ((x.2.2.toNat : Nat) : Int) = x.2.2 := Int.toNat_of_nonneg (by omega)
        have := q x.2.2.toNat (by omega) fun w hw => by
          rw [hn]
          exact hle _ (List.mem_map_of_mem hw)
        rw [hn] at this
        exact this.go G.e0
theorem ok_greatest_distance {P : Program} {w : World} {K : PySem.W.Frag} {mg : Str → Option Value} {base : Heap} {CT CS CB : Addr} {f : Addr} {fd : FuncData} (F : Fun K "greatest_distance" "greatest_distance" s_greatest_distance f fd) (T : Tx K mg CT CS CB) {p_Task_longest_distance f_Task_longest_distance : Addr} {fd_Task_longest_distance : FuncData} (C_Task_longest_distance : CalP P w K mg base CT "longest_distance" 2 P_Task_longest_distance (sp_Task_longest_distance K CT) p_Task_longest_distance f_Task_longest_distance fd_Task_longest_distance) :
    FnOk P w K mg base CX0 4 f fd P_greatest_distance (sp_greatest_distance K CT CS) := by
  refine F.ok sc_greatest_distance (fun vs H Q E h => ?_) (fun cdv A outer s H vs Q E hr h => ?_)
  · obtain ⟨B, sv, Ts, tb, rfl, _⟩ := h
    rfl
  · obtain ⟨B, sv, Ts, tb, rfl, e, hS, hok, q⟩ := h
    refine ⟨_, (pss_one (ps_ret (pe_callBK (cr_maxDef rfl (k := 1) (hr.mono (by decide))) rfl T.max boot_max (pa_cons (pe_lc (own := [("task", 1)])  rfl sc_greatest_distance.nd  (pi_tup (pe_fld (pv 0) rfl)) (blkOk_by (N := N_greatest_distance) (sc := defScope s_greatest_distance) (by decide +kernel)) (fun _ _ _ _ _ => pg_name (i := 1) sc_greatest_distance.nd rfl (Or.inl rfl)) (fun _ _ _ _ _ => pts_nil) (fun _ _ _ _ _ => (pe_prop (pv 1) T.clTask C_Task_longest_distance.pr C_Task_longest_distance.ok (hr.mono (by decide)) C_Task_longest_distance.b .nil pass0 rfl))) pa_nil) (pk_cons pe_int pk_nil)))), ?_⟩
    obtain ⟨sp, sdx, sfs, tv, bv, rfl, hsp, htv, hbv, ⟨ta, tvs, rfl, hta, htr⟩, hbr⟩ := id hS
    have hsp' := e _ _ hsp
    dsimp only [tRet, tCKw, tCB, tCons]
    refine tlc_TR (S := rLong) mono_Long (fun R r => ⟨_, rfl, sp, CS, sdx, sfs, _, rfl, hsp', T.clSystem, T.naSystem_tasks, htv, ta, rfl, ⟨_, ex_t e hta⟩, r⟩) (Sg.refl e) hta htr (fun _ => true) (fun T => T) (Nat.le_trans hok.le (by decide)) ?_ ?_
    · intro x v N' H' hx hT eN G
      obtain ⟨p, dx, fs, kv, wv, hv, hp, _⟩ := id hT
      subst hv
      intro Nn Y hn hy
      refine ⟨rfl, _, rfl, p, dx, fs, rfl, (eN.trans G.eH) _ _ hp, ?_⟩
      exact ⟨B, _, x, rfl, eN.trans G.eH, hT, hok.t x hx, fun d hd hw H2 e2 => hy rfl _ _ _ ((Sg.refl G.eH).ext e2) ⟨d, rfl, hd, hw⟩⟩
    · intro v N' H' eN G r
      rw [filtT, List.map_id'] at r
      obtain ⟨l, vs, rfl, hl, hr⟩ := r
      obtain ⟨ns, rfl, h2, h3⟩ := pr_long hr
      refine ⟨l, ns, 0, rfl, rfl, ex_l G.eH hl, fun e0 => ?_, fun m hm hle => ?_⟩
      · refine (q 0 (by decide) fun T hT w hw => ?_).go G.e0
        obtain ⟨m, hm, _⟩ := h2 T hT
        rw [e0] at hm
        cases hm
      · obtain ⟨d, rfl, hd⟩ := h3 m hm
        refine (q d hd fun T hT w hw => ?_).go G.e0
        obtain ⟨m', hm', hw'⟩ := h2 T hT
        exact Int.le_trans (hw' w hw) (hle m' hm')
theorem ok_row_growth {P : Program} {w : World} {K : PySem.W.Frag} {mg : Str → Option Value} {base : Heap} {CT CS CB : Addr} {f : Addr} {fd : FuncData} (F : Fun K "row_growth" "row_growth" s_row_growth f fd) (T : Tx K mg CT CS CB)  :
    FnOk P w K mg base CX0 1 f fd P_row_growth (sp_row_growth K) := by
  refine F.ok sc_row_growth (fun vs H Q E h => ?_) (fun cdv A outer s H vs Q E hr h => ?_)
  · obtain ⟨B, fv, T', M, m, cnt, qq, rfl, _⟩ := h
    rfl
  · obtain ⟨B, fv, T', M, m, cnt, qq, rfl, e, hF, hm, hc, hM, q⟩ := h
    refine ⟨_, (pss_cons (ps_set (i := 4) sc_row_growth.nd rfl (Or.inl rfl) pe_int)
    (pss_cons (ps_for PassesOwn.never rfl (pi_range1 rfl T.range (pa_cons (pv 2) pa_nil)) (pg_name (i := 5) sc_row_growth.nd rfl (Or.inl rfl)) (pss_cons (ps_set (i := 6) sc_row_growth.nd rfl (Or.inl rfl) (pe_ix ix_list (pv 0) (pe_op op_sub (pv 1) (pv 5)) (fun _ _ => rfl)))
    (pss_cons (ps_set (i := 7) sc_row_growth.nd rfl (Or.inl rfl) (pe_ix ix_list (pv 0) (pe_op op_sub (pe_op op_sub (pv 1) (pv 5)) (pv 3)) (fun _ _ => rfl)))
    (pss_one (ps_for PassesOwn.never rfl (pi_enum rfl T.enumerate (pa_cons (pv 6) pa_nil)) (pg_tup rfl (pgs_cons (pg_name (i := 8) sc_row_growth.nd rfl (Or.inl rfl)) (pgs_cons (pg_name (i := 9) sc_row_growth.nd rfl (Or.inl rfl)) pgs_nil))) (pss_one (ps_set (i := 4) sc_row_growth.nd rfl (Or.inl rfl) (pe_callB (call_max2 rfl) rfl T.max boot_max (pa_cons (pv 4) (pa_cons (pe_op op_sub (pv 9) (pe_ix ix_list (pv 7) (pv 8) (fun _ _ => rfl))) pa_nil))))))))))
    (pss_one (ps_ret (pv 4))))), ?_⟩
    obtain ⟨fa, rs, rfl, hfa, hfr⟩ := hF
    walk_at "go"
    refine ⟨by omega, by omega, ?_⟩
    rw [Int.toNat_natCast]
    refine for_range (fun i σ' H' => Ex H H' ∧ ∃ g, NLM.GrowsBy T' m i qq g ∧ ∃ u w x y z, σ' = [some (.ref fa), some (.int (m : Int)), some (.int (cnt : Int)), some (.int (qq : Int)), some (.int g), u, w, x, y, z]) ⟨Ex.refl _, 0, ⟨Int.le_refl _, fun b hb => absurd hb (Nat.not_lt_zero _)⟩, _, _, _, _, _, rfl⟩ ?_ ?_
    · rintro i σ' H' hi ⟨e1, g, hg, u, w, x, y, z, rfl⟩
      rw [show (0 : Int) + (i : Int) = (i : Int) from Int.zero_add _]
      obtain ⟨uv, huv, ua, rfl, hua⟩ := hfr.get (NLM.rowsN_get T' (n := M) (i := m - i) (by omega))
      obtain ⟨lv, hlv, la, rfl, hla⟩ := hfr.get (NLM.rowsN_get T' (n := M) (i := m - i - qq) (by omega))
      have hfa1 := ex_l (e.trans e1) hfa
      walk_at "go"
      refine ⟨fa, rs, _, _, rfl, rfl, hfa1, atI_of (by omega) huv, ?_⟩
      walk_at "go"
      refine ⟨fa, rs, _, _, rfl, rfl, hfa1, atI_of (by omega) hlv, ?_⟩
      have hua1 := ex_l (e.trans e1) hua
      refine ⟨_, rfl, ua, _, rfl, hua1, ?_⟩
      refine for_it walk_enum (fun j σ2 H2 => Ex H' H2 ∧ ∃ g2, g ≤ g2 ∧ (∀ j', j' < j → NLM.num T' j' (m - i) - NLM.num T' j' (m - i - qq) ≤ g2) ∧ ∃ y z, σ2 = [some (.ref fa), some (.int (m : Int)), some (.int (cnt : Int)), some (.int (qq : Int)), some (.int g2), some (.int (i : Int)), some (.ref ua), some (.ref la), y, z]) ⟨Ex.refl _, g, Int.le_refl _, fun b hb => absurd hb (Nat.not_lt_zero _), _, _, rfl⟩ (fun j σ2 H2 _ ⟨e2, _⟩ => ex_l e2 hua1) ?_ ?_
      · rintro j v σ2 H2 H3 hj ⟨e2, g2, hg2, hjs, y, z, rfl⟩ ⟨Tp, x1, x2, rfl, hf, rfl, h1, h2⟩
        cases h1
        rw [List.length_map, NLM.rowOf_len] at hj
        dsimp only at h2
        rw [List.getElem?_map, NLM.row_get _ hj] at h2
        cases h2
        have e3 := Ex.new (o := .tup [.int (j : Int), .int (NLM.num T' j (m - i))]) hf
        refine ⟨Tp, _, rfl, SqT.of upd_same, rfl, _, _, rfl, _, _, rfl, rfl, ?_⟩
        have hg : ((NLM.rowOf T' (m - i - qq)).map V.int)[j]? = some (.int (NLM.num T' j (m - i - qq))) := by
          rw [List.getElem?_map, NLM.row_get _ hj] <;> rfl
        walk_at "go"
        refine ⟨la, _, _, _, rfl, rfl, ex_l ((e.trans e1).trans (e2.trans e3)) hla, atI_of rfl hg, ?_⟩
        walk_at "go"
        have hb : ∀ x y : Int, (if y > x then y else x) = max x y := fun x y => by
          by_cases h : y > x
          · rw [if_pos h]; omega
          · rw [if_neg h]; omega
        refine ⟨_, _, rfl, ?_⟩
        rw [hb]
        refine ⟨e2.trans e3, _, ?_, ?_, _, _, rfl⟩
        · exact Int.le_trans hg2 (Int.le_max_left _ _)
        · intro j' hj'
          rcases Nat.lt_or_eq_of_le (Nat.le_of_lt_succ hj') with h | rfl
          · exact Int.le_trans (hjs j' h) (Int.le_max_left _ _)
          · exact Int.le_max_right _ _
      · rintro σ2 H2 ⟨e2, g2, hg2, hjs, y, z, rfl⟩
        rw [List.length_map, NLM.rowOf_len] at hjs
        refine ⟨e1.trans e2, g2, ⟨Int.le_trans hg.1 hg2, fun b hb j hj => ?_⟩, _, _, _, _, _, rfl⟩
        rcases Nat.lt_or_eq_of_le (Nat.le_of_lt_succ hb) with h | rfl
        · exact Int.le_trans (hg.2 b h j hj) hg2
        · exact hjs j hj
    · rintro σ' H' ⟨e1, g, hg, u, w, x, y, z, rfl⟩
      walk_at "go"
      exact (q g hg).go e1
theorem ok_come_round {P : Program} {w : World} {K : PySem.W.Frag} {mg : Str → Option Value} {base : Heap} {CT CS CB : Addr} {f : Addr} {fd : FuncData} (F : Fun K "come_round" "come_round" s_come_round f fd) (T : Tx K mg CT CS CB) {f_greatest_distance : Addr} {fd_greatest_distance : FuncData} {f_greatest_deadline : Addr} {fd_greatest_deadline : FuncData} {f_row_growth : Addr} {fd_row_growth : FuncData} (C_greatest_distance : CalF P w K mg base "greatest_distance" 4 P_greatest_distance (sp_greatest_distance K CT CS) f_greatest_distance fd_greatest_distance) (C_greatest_deadline : CalF P w K mg base "greatest_deadline" 4 P_greatest_deadline (sp_greatest_deadline K CT CS) f_greatest_deadline fd_greatest_deadline) (C_row_growth : CalK P w K mg base "row_growth" 1 1 ["length", "count", "step"] P_row_growth (sp_row_growth K) f_row_growth fd_row_growth) :
    FnOk P w K mg base CX0 5 f fd P_come_round (sp_come_round K CT CS) := by
  refine F.ok sc_come_round (fun vs H Q E h => ?_) (fun cdv A outer s H vs Q E hr h => ?_)
  · obtain ⟨B, sv, Ts, tb, fv, qq, h, rfl, _⟩ := h
    rfl
  · obtain ⟨B, sv, Ts, tb, fv, qq, h, rfl, e, hS, hok, h1, hne, ⟨fa, rs, rfl, hfa, hfr⟩, hh, q⟩ := h
    refine ⟨_, (pss_cons (ps_set (i := 4) sc_come_round.nd rfl (Or.inl rfl) (pe_callB call_len_seq rfl T.len PySem.boot_len (pa_cons (pe_fld (pv 0) rfl) pa_nil)))
    (pss_cons (ps_set (i := 5) sc_come_round.nd rfl (Or.inl rfl) (pe_call C_greatest_distance.ok (hr.mono (by decide)) rfl C_greatest_distance.g C_greatest_distance.kp C_greatest_distance.b .nil pass0 (pa_cons (pv 0) pa_nil)))
    (pss_cons (ps_if (PW.pt (pw_or (pt_cmpR op_lt (pv 2) pe_int (nomark _)) (pw_or1 (pt_cmpR op_ne (pe_op op_mod (pv 2) (pv 4)) pe_int (nomark _))))) (pss_one (ps_ret pe_bl)) pss_nil)
    (pss_cons (ps_if (pt_cmpR op_gt (pe_op op_add (pe_op op_add (pe_op op_add (pe_call C_greatest_deadline.ok (hr.mono (by decide)) rfl C_greatest_deadline.g C_greatest_deadline.kp C_greatest_deadline.b .nil pass0 (pa_cons (pv 0) pa_nil)) (pv 5)) (pv 4)) (pv 2)) (pv 3) (nomark _)) (pss_one (ps_ret pe_bl)) pss_nil)
    (pss_cons (ps_set (i := 6) sc_come_round.nd rfl (Or.inl rfl) pe_int)
    (pss_cons (ps_for PassesOwn.never rfl (pi_list (pv 1)) (pg_name (i := 7) sc_come_round.nd rfl (Or.inl rfl)) (pss_one (ps_aug (i := 6) sc_come_round.nd rfl (Or.inl rfl) (pe_callN C_row_growth.ok (hr.mono (by decide)) rfl C_row_growth.g C_row_growth.kp C_row_growth.kb pass0 (pa_cons (pv 7) pa_nil) (pk_cons (pe_op op_sub (pv 3) (pv 4)) (pk_cons (pv 5) (pk_cons (pv 2) pk_nil)))) ip_add)))
    (pss_one (ps_ret (pe_cmpR op_le (pv 6) (pe_op op_mul (pe_callB (cr_sumT rfl) rfl T.sum boot_sum (pa_cons (pe_fld (pv 0) rfl) pa_nil)) (pe_op op_fdiv (pv 2) (pv 4))) (nomark _)))))))))), ?_⟩
    obtain ⟨sp, sdx, sfs, tv, bv, rfl, hsp, htv, hbv, ⟨ta, tvs, rfl, hta, htr⟩, ⟨ba, rfl, hba⟩⟩ := id hS
    have hsp' := e _ _ hsp
    dsimp only at htr hba
    have hP1 := hok.b.ne
    have hP2 := hok.b.le
    have hsb : 0 ≤ tb.sum ∧ tb.sum ≤ 1000000 * 1001 := by
      have hs := sum_bd tb hok.b.c
      constructor
      · exact hs.1
      · have h3 : (tb.length : Int) * 1000000 ≤ 1001 * 1000000 := Int.mul_le_mul_of_nonneg_right (by omega) (by decide)
        omega
    refine ⟨_, rfl, sp, CS, sdx, sfs, _, rfl, hsp', T.clSystem, T.naSystem_table, hbv, ba, _, rfl, .inr (ex_t e hba), ?_⟩
    rw [List.length_map]
    refine ⟨_, rfl, B, _, Ts, tb, rfl, e, hS, hok, fun cnt hcnt hall H1 e1 => ?_⟩
    walk_at "go"
    refine ited (fun c1 => (q false (fun h => by cases h)).go e1) (fun c1 => ?_)
    walk_at "go"
    refine ⟨by omega, ?_⟩
    walk_at "go"
    refine itend (fun c2 => (q false (fun h => by cases h)).go e1) (fun c2 => ?_)
    injection c2 with c2
    refine ⟨_, rfl, B, _, Ts, tb, rfl, e.trans e1, hS, hok, h1, hne, fun H2 e2 => ?_⟩
    walk_at "go"
    refine ited (fun c3 => (q false (fun h => by cases h)).go (e1.trans e2)) (fun c3 => ?_)
    have e12 := e1.trans e2
    refine ⟨_, rfl, fa, rfl, ⟨_, ex_l (e.trans e12) hfa⟩, ?_⟩
    refine for_LR hfa hfr (fun i σ' H' => Ex H H' ∧ ∃ gs : List Int, gs.length = i ∧ (∀ (j : Nat) (T : Tk) (g : Int), Ts[j]? = some T → gs[j]? = some g → NLM.GrowsBy T (h - tb.length) cnt qq g) ∧ ∃ u, σ' = [some (.ref sp), some (.ref fa), some (.int (qq : Int)), some (.int (h : Int)), some (.int (tb.length : Int)), some (.int (cnt : Int)), some (.int gs.sum), u]) ⟨e12, [], rfl, fun j T g _ h => by simp at h, _, rfl⟩ (fun i σ' H' ⟨e3, _⟩ => e.trans e3) ?_ ?_
    · rintro i x v σ' H' hx hr ⟨e3, gs, hgl, hgs, u, rfl⟩
      rw [List.getElem?_map] at hx
      obtain ⟨T0, hT0, rfl⟩ := Option.map_eq_some_iff.mp hx
      refine ⟨_, rfl, ?_⟩
      walk_at "go"
      refine ⟨B, v, T0, h + 1, h - tb.length, cnt, qq, ?_, e.trans e3, hr, by omega, by omega, by omega, fun g hg H4 e4 => ?_⟩
      · show [v, V.int ((h : Int) - (tb.length : Int)), V.int (cnt : Int), V.int (qq : Int)] = _
        rw [show (h : Int) - (tb.length : Int) = ((h - tb.length : Nat) : Int) by omega]
      refine ⟨_, _, rfl, rfl, ?_⟩
      refine ⟨e3.trans e4, gs ++ [g], by rw [List.length_append, hgl] <;> rfl, fun j T g' hj hg' => ?_, some v, ?_⟩
      · rw [List.getElem?_append] at hg'
        by_cases c : j < gs.length
        · rw [if_pos c] at hg'
          exact hgs j T g' hj hg'
        · rw [if_neg c] at hg'
          have hj0 : j - gs.length = 0 := by
            cases hz : j - gs.length with
            | zero => rfl
            | succ z => rw [hz] at hg'; simp at hg'
          rw [hj0] at hg'
          have hji : j = i := by omega
          rw [hji, hT0] at hj
          cases hj
          cases hg'
          exact hg
      · rw [List.sum_append]
        simp
    · rintro σ' H' ⟨e3, gs, hgl, hgs, u, rfl⟩
      rw [List.length_map] at hgl
      refine ⟨_, rfl, _, rfl, sp, CS, sdx, sfs, _, rfl, e3 _ _ hsp', T.clSystem, T.naSystem_table, hbv, ba, tb, rfl, ex_t (e.trans e3) hba, ?_⟩
      walk_at "go"
      refine ⟨⟨by omega, by omega⟩, ?_⟩
      walk_at "go"
      refine ⟨.inl ⟨by omega, by omega⟩, ?_⟩
      walk_at "go"
      refine (q _ fun hb => ?_).go e3
      have hb := of_decide_eq_true hb
      have c2' : qq % tb.length = 0 := by omega
      have hd := Nat.div_add_mod qq tb.length
      rw [c2', Nat.add_zero] at hd
      have hk : 1 ≤ qq / tb.length := by
        rcases Nat.eq_zero_or_pos (qq / tb.length) with z | z
        · rw [z, Nat.mul_zero] at hd
          omega
        · exact z
      refine ⟨qq / tb.length, cnt, gs, hk, hd.symm, by omega, hall, hgl, hgs, ?_⟩
      rw [Int.mul_comm, Int.natCast_ediv]
      exact hb
theorem ok_rounds {P : Program} {w : World} {K : PySem.W.Frag} {mg : Str → Option Value} {base : Heap} {CT CS CB : Addr} {f : Addr} {fd : FuncData} (F : Fun K "rounds" "rounds" s_rounds f fd) (T : Tx K mg CT CS CB) {f_rows : Addr} {fd_rows : FuncData} {f_come_round : Addr} {fd_come_round : FuncData} (C_rows : CalF P w K mg base "rows" 4 P_rows (sp_rows K CT) f_rows fd_rows) (C_come_round : CalK P w K mg base "come_round" 5 2 ["step", "horizon"] P_come_round (sp_come_round K CT CS) f_come_round fd_come_round) :
    FnOk P w K mg base CX0 6 f fd P_rounds (sp_rounds K CT CS) := by
  refine F.ok sc_rounds (fun vs H Q E h => ?_) (fun cdv A outer s H vs Q E hr h => ?_)
  · obtain ⟨B, sv, Ts, tb, h, rfl, _⟩ := h
    rfl
  · obtain ⟨B, sv, Ts, tb, h, rfl, e, hS, hok, h1, hne, hh, q⟩ := h
    refine ⟨_, (pss_cons (ps_setLc (i := 2) (own := [("task", 5)])  rfl sc_rounds.nd rfl rfl (sw_true rfl rfl rfl (by decide +kernel)) (pi_tup (pe_fld (pv 0) rfl)) (blkOk_by (N := N_rounds) (sc := defScope s_rounds) (by decide +kernel)) (fun _ _ _ _ _ => pg_name (i := 5) sc_rounds.nd rfl (Or.inl rfl)) (fun _ _ _ _ _ => pts_nil) (fun _ _ _ _ _ => (pe_call C_rows.ok (hr.mono (by decide)) rfl C_rows.g C_rows.kp C_rows.b .nil pass0 (pa_cons (pv 5) (pa_cons (pv 1) pa_nil)))))
    (pss_cons (ps_set (i := 3) sc_rounds.nd rfl (Or.inl rfl) (pe_callB call_len_seq rfl T.len PySem.boot_len (pa_cons (pe_fld (pv 0) rfl) pa_nil)))
    (pss_cons (ps_for PassesOwn.never rfl (pi_range3 rfl T.range (pa_cons (pv 3) (pa_cons (pe_op op_add (pv 1) pe_int) (pa_cons (pv 3) pa_nil)))) (pg_name (i := 4) sc_rounds.nd rfl (Or.inl rfl)) (pss_one (ps_if (pt_val (pe_callN C_come_round.ok (hr.mono (by decide)) rfl C_come_round.g C_come_round.kp C_come_round.kb pass0 (pa_cons (pv 0) (pa_cons (pv 2) pa_nil)) (pk_cons (pv 4) (pk_cons (pv 1) pk_nil)))) (pss_one (ps_ret (pv 4))) pss_nil)))
    (pss_one (ps_ret pe_non))))), ?_⟩
    obtain ⟨sp, sdx, sfs, tv, bv, rfl, hsp, htv, hbv, ⟨ta, tvs, rfl, hta, htr⟩, ⟨ba, rfl, hba⟩⟩ := id hS
    have hsp' := e _ _ hsp
    have hP1 := hok.b.ne
    have hP2 := hok.b.le
    dsimp only [tSeq, tAsg]
    refine tlc_TR (S := LR K (LI K)) (mono_LR mono_LI) (fun R r => ⟨_, rfl, sp, CS, sdx, sfs, _, rfl, hsp', T.clSystem, T.naSystem_tasks, htv, ta, rfl, ⟨_, ex_t e hta⟩, r⟩) (Sg.refl e) hta htr (fun _ => true) (fun T => NLM.rowsN T (h + 1)) (Nat.le_trans hok.le (by decide)) ?_ ?_
    · intro x v N' H' hx hT eN G Nn Y hn hy
      refine ⟨rfl, _, rfl, _, rfl, N', v, x, h, rfl, G.eH, mono_T _ _ _ _ eN hT, hok.t x hx, hh, fun v2 N2 H2 G2 r2 => ?_⟩
      exact hy rfl _ _ _ G2 r2
    · intro v N1 H1 eN1 G r
      rw [filtT] at r
      have hsp1 := G.e0 _ _ hsp'
      refine ⟨_, rfl, sp, CS, sdx, sfs, _, rfl, hsp1, T.clSystem, T.naSystem_table, hbv, ba, _, rfl, .inr (ex_t (G.eN.trans G.eH) hba), ?_⟩
      rw [List.length_map]
      walk_at "go"
      refine ⟨_, _, _, _, rfl, rg_ok hP1 hP2 hh, ?_⟩
      refine for_rangeC (fun i σ' H' => Ex H1 H' ∧ ∃ u w, σ' = [some (.ref sp), some (.int (h : Int)), some v, some (.int (tb.length : Int)), u, w]) ⟨Ex.refl _, _, _, rfl⟩ ?_ ?_
      · rintro i σ' H' hi ⟨e3, u, w, rfl⟩
        rw [show (tb.length : Int) + ((i : Nat) : Int) * (tb.length : Int) = ((tb.length * (i + 1) : Nat) : Int) by rw [Int.natCast_mul, Int.natCast_add, Int.mul_add, Int.mul_comm (i : Int)]; omega]
        walk_at "go"
        refine ⟨N1, _, Ts, tb, v, tb.length * (i + 1), h, rfl, G.eH.trans e3, mono_Sy _ _ _ _ G.eN hS, hok, h1, hne, r, hh, fun b hb H4 e4 => ⟨_, rfl, ?_⟩⟩
        refine ite2' (fun c => ?_) (fun c => ?_)
        · walk_at "go"
          exact (q _ (.inr ⟨_, rfl, hb c⟩)).go ((G.e0.trans e3).trans e4)
        · exact ⟨e3.trans e4, _, _, rfl⟩
      · rintro σ' H' ⟨e3, u, w, rfl⟩
        exact (q _ (.inl rfl)).go (G.e0.trans e3)
theorem ok_supply_of_first {P : Program} {w : World} {K : PySem.W.Frag} {mg : Str → Option Value} {base : Heap} {CT CS CB : Addr} {f : Addr} {fd : FuncData} (F : Fun K "supply_of_first" "supply_of_first" s_supply_of_first f fd) (T : Tx K mg CT CS CB)  :
    FnOk P w K mg base CX0 1 f fd P_supply_of_first (sp_supply_of_first K) := by
  refine F.ok sc_supply_of_first (fun vs H Q E h => ?_) (fun cdv A outer s H vs Q E hr h => ?_)
  · obtain ⟨B, tv, tb, n, rfl, _⟩ := h
    rfl
  · obtain ⟨B, tv, tb, n, rfl, e, hT, hok, q⟩ := h
    refine ⟨_, (pss_cons (ps_asg (pe_callB call_divmod rfl T.divmod boot_divmod (pa_cons (pv 1) (pa_cons (pe_callB call_len_seq rfl T.len PySem.boot_len (pa_cons (pv 0) pa_nil)) pa_nil))) (pg_tup rfl (pgs_cons (pg_name (i := 2) sc_supply_of_first.nd rfl (Or.inl rfl)) (pgs_cons (pg_name (i := 3) sc_supply_of_first.nd rfl (Or.inl rfl)) pgs_nil))))
    (pss_one (ps_ret (pe_op op_add (pe_op op_mul (pv 2) (pe_callB (cr_sumT rfl) rfl T.sum boot_sum (pa_cons (pv 0) pa_nil))) (pe_callB (cr_sumT rfl) rfl T.sum boot_sum (pa_cons (pe_slice sl_tup (pv 0) po_none (po_some (pv 3))) pa_nil)))))), ?_⟩
    obtain ⟨ta, rfl, hta⟩ := hT
    have hta' := ex_t e hta
    have h1 := hok.ne
    have h2 := hok.le
    walk_at "go"
    refine ⟨ta, _, rfl, .inr hta', ?_⟩
    walk_at "go"
    rw [List.length_map]
    refine ⟨_, _, rfl, ⟨by omega, by omega⟩, fun p hp => ?_⟩
    refine ⟨p, _, rfl, SqT.of upd_same, rfl, _, _, rfl, _, _, rfl, rfl, ?_⟩
    have hta2 := ex_t (Ex.new (o := .tup [V.int ((n : Int) / (tb.length : Int)), V.int ((n : Int) % (tb.length : Int))]) hp) hta'
    have hsb : 0 ≤ tb.sum ∧ tb.sum ≤ 1000000 * 1001 := by
      have hs := sum_bd tb hok.c
      constructor
      · exact hs.1
      · have h3 : (tb.length : Int) * 1000000 ≤ 1001 * 1000000 := Int.mul_le_mul_of_nonneg_right (by omega) (by decide)
        omega
    refine ⟨_, rfl, _, rfl, ta, tb, rfl, hta2, _, _, rfl, rfl, .inr ⟨by omega, by omega⟩, ?_⟩
    have hr : (n : Int) % (tb.length : Int) = ((n % tb.length : Nat) : Int) := (Int.natCast_emod _ _).symm
    rw [hr]
    have hlt := Nat.mod_lt n h1
    refine ⟨_, rfl, _, rfl, _, rfl, ta, _, rfl, hta2, ?_, fun p2 hp2 => ?_⟩
    · rintro ⟨_, h⟩
      rw [HT.sIx_nat, List.length_map] at h
      omega
    refine ⟨p2, tb.take (n % tb.length), rfl, SqT.of ?_, ?_⟩
    · rw [upd_same, cutV, HT.sIx_nat, HT.sIx_none, List.length_map, List.drop_zero, Nat.sub_zero, Nat.min_eq_left (Nat.le_of_lt hlt), List.map_take]
    · walk_at "go"
      have hq := q
      rw [NLM.sof, Int.natCast_ediv] at hq
      exact hq.go ((Ex.new hp).trans (Ex.new hp2))
theorem ok_supply {P : Program} {w : World} {K : PySem.W.Frag} {mg : Str → Option Value} {base : Heap} {CT CS CB : Addr} {f : Addr} {fd : FuncData} (F : Fun K "supply" "supply" s_supply f fd) (T : Tx K mg CT CS CB) {f_supply_of_first : Addr} {fd_supply_of_first : FuncData} (C_supply_of_first : CalF P w K mg base "supply_of_first" 1 P_supply_of_first (sp_supply_of_first K) f_supply_of_first fd_supply_of_first) :
    FnOk P w K mg base CX0 2 f fd P_supply (sp_supply K) := by
  refine F.ok sc_supply (fun vs H Q E h => ?_) (fun cdv A outer s H vs Q E hr h => ?_)
  · obtain ⟨B, tv, tb, s', e', rfl, _⟩ := h
    rfl
  · obtain ⟨B, tv, tb, s', e', rfl, e, hT, hok, hlt, q⟩ := h
    refine ⟨_, (pss_cons (ps_if (pt_cmpR op_le (pv 2) (pv 1) (nomark _)) (pss_one (ps_ret pe_int)) pss_nil)
    (pss_one (ps_ret (pe_op op_sub (pe_call C_supply_of_first.ok (hr.mono (by decide)) rfl C_supply_of_first.g C_supply_of_first.kp C_supply_of_first.b .nil pass0 (pa_cons (pv 0) (pa_cons (pv 2) pa_nil))) (pe_call C_supply_of_first.ok (hr.mono (by decide)) rfl C_supply_of_first.g C_supply_of_first.kp C_supply_of_first.b .nil pass0 (pa_cons (pv 0) (pa_cons (pv 1) pa_nil))))))), ?_⟩
    walk_at "go"
    refine ited (fun c => absurd c (by omega)) (fun c => ?_)
    walk_at "go"
    refine ⟨B, _, tb, e', rfl, e, hT, hok, fun H1 e1 => ?_⟩
    walk_at "go"
    refine ⟨B, _, tb, s', rfl, e.trans e1, hT, hok, fun H2 e2 => ?_⟩
    walk_at "go"
    exact q.go (e1.trans e2)
theorem ok_is_name {P : Program} {w : World} {K : PySem.W.Frag} {mg : Str → Option Value} {base : Heap} {CT CS CB : Addr} {f : Addr} {fd : FuncData} (F : Fun K "is_name" "is_name" s_is_name f fd) (T : Tx K mg CT CS CB)  :
    FnOk P w K mg base CX0 1 f fd P_is_name sp_is_name := by
  refine F.ok sc_is_name (fun vs H Q E h => ?_) (fun cdv A outer s H vs Q E hr h => ?_)
  · obtain ⟨z, rfl, _⟩ := h
    rfl
  · obtain ⟨z, rfl, hz, q⟩ := h
    refine ⟨_, (pss_cons (ps_if (pt_not (pt_chain op_le op_le pe_int (pe_callB call_len_str rfl T.len PySem.boot_len (pa_cons (pv 0) pa_nil)) (pe_gl rfl T.c_MOST_NAME_CHARS))) (pss_one (ps_ret pe_bl)) pss_nil)
    (pss_one (ps_ret (pe_callB (cr_all rfl) rfl T.all boot_all (pa_cons (pe_lc (own := [("char", 1)])  rfl sc_is_name.nd  (pi_str (pv 0)) (blkOk_by (N := N_is_name) (sc := defScope s_is_name) (by decide +kernel)) (fun _ _ _ _ _ => pg_name (i := 1) sc_is_name.nd rfl (Or.inl rfl)) (fun _ _ _ _ _ => pts_nil) (fun _ _ _ _ _ => (pe_cmpR op_in_sign (pv 1) (pe_gl rfl T.c_NAME_CHARS) rfl))) pa_nil))))), ?_⟩
    obtain ⟨z1, z2, z3⟩ := hz
    refine ⟨_, rfl, z, rfl, sz_of (by omega), ?_⟩
    walk_at "go"
    refine ited (fun c => ?_) (fun c => absurd c (by omega))
    walk_at "go"
    have hd : decide ((z.length : Int) ≤ 12) = true := decide_eq_true (by omega)
    rw [hd]
    dsimp only [Bool.not_true]
    rw [if_neg (show ¬ (!true) = true by decide)]
    dsimp only [tNext, tRet, tCB, tCons]
    refine tlc_ST (K := K) mono_B z (fun R r => ⟨_, rfl, z, rfl, r⟩) (Sg.self H) (fun _ => true) (by show z.length ≤ 10000; omega) ?_ ?_
    · intro c N' H' hc eN G Nn Y hn' hy
      refine ⟨rfl, ?_⟩
      walk_at "go"
      rw [decide_eq_true (p := c ∈ (Str.ofString "abcdefghijklmnopqrstuvwxyz0123456789").cps.toList) (z3 c hc)]
      exact hy rfl _ _ _ (Sg.refl G.eH) rfl
    · intro v N' H' eN G r
      obtain ⟨a, vs, rfl, ha, hr⟩ := r
      have := hr.bools
      subst this
      refine ⟨a, _, rfl, ex_l G.eH ha, ?_⟩
      have hall : (z.cps.toList.map fun _ => true).all id = true := List.all_eq_true.mpr fun b hb => by
        obtain ⟨_, _, rfl⟩ := List.mem_map.mp hb
        rfl
      rw [hall]
      exact q.go G.e0
theorem ok_are_kinds {P : Program} {w : World} {K : PySem.W.Frag} {mg : Str → Option Value} {base : Heap} {CT CS CB : Addr} {f : Addr} {fd : FuncData} (F : Fun K "are_kinds" "are_kinds" s_are_kinds f fd) (T : Tx K mg CT CS CB) {f_is_name : Addr} {fd_is_name : FuncData} (C_is_name : CalF P w K mg base "is_name" 1 P_is_name sp_is_name f_is_name fd_is_name) :
    FnOk P w K mg base CX0 2 f fd P_are_kinds (sp_are_kinds K) := by
  refine F.ok sc_are_kinds (fun vs H Q E h => ?_) (fun cdv A outer s H vs Q E hr h => ?_)
  · obtain ⟨B, kv, ks, rfl, _⟩ := h
    rfl
  · obtain ⟨B, kv, ks, rfl, e, ⟨ka, kvs, rfl, hka, hkr⟩, hok, q⟩ := h
    have hl := hkr.len
    have h1 := hok.ne
    have h2 := hok.le
    refine ⟨_, (pss_cons (ps_if (pt_not (pt_chain op_le op_le pe_int (pe_callB call_len_seq rfl T.len PySem.boot_len (pa_cons (pv 0) pa_nil)) (pe_gl rfl T.c_MOST_KINDS))) (pss_one (ps_ret pe_bl)) pss_nil)
    (pss_cons (ps_set (i := 1) sc_are_kinds.nd rfl (Or.inl rfl) (pe_lst pa_nil))
    (pss_cons (ps_for PassesOwn.never rfl (pi_list (pv 0)) (pg_tup rfl (pgs_cons (pg_name (i := 2) sc_are_kinds.nd rfl (Or.inl rfl)) (pgs_cons (pg_name (i := 3) sc_are_kinds.nd rfl (Or.inl rfl)) (pgs_cons (pg_name (i := 4) sc_are_kinds.nd rfl (Or.inl rfl)) pgs_nil)))) (pss_cons (ps_if (PW.pt (pw_or (pt_not (pt_val (pe_call C_is_name.ok (hr.mono (by decide)) rfl C_is_name.g C_is_name.kp C_is_name.b .nil pass0 (pa_cons (pv 2) pa_nil)))) (pw_or1 (pt_cmpR op_in_seq (pv 2) (pv 1) rfl)))) (pss_one (ps_ret pe_bl)) pss_nil)
    (pss_cons (ps_if (PW.pt (pw_or (pt_not (pt_chain op_le op_le pe_int (pv 3) (pe_gl rfl T.c_MOST_COST))) (pw_or1 (pt_not (pt_chain op_le op_le pe_int (pv 4) (pe_gl rfl T.c_MOST_DEADLINE)))))) (pss_one (ps_ret pe_bl)) pss_nil)
    (pss_one (ps_expr (pe_bm PySem.F.plainAttrs_list PySem.F.slot_list_append PySem.F.type_list_append mt_append (pv 1) (pa_cons (pv 2) pa_nil)))))))
    (pss_one (ps_ret pe_bl))))), ?_⟩
    refine ⟨_, rfl, ka, _, rfl, .inl (ex_l e hka), ?_⟩
    rw [← hl]
    walk_at "go"
    refine ited (fun c => ?_) (fun c => absurd c (by omega))
    walk_at "go"
    have hd : decide ((ks.length : Int) ≤ 8) = true := decide_eq_true (by omega)
    rw [hd]
    refine ⟨sz0, fun l hlN => ?_⟩
    have hBl := Evl.fresh_back e hlN
    have G0 := (Sg.refl e).mut (o := .lst []) hBl hlN
    refine ⟨_, rfl, ka, rfl, ⟨_, ex_l G0.eH hka⟩, ?_⟩
    refine for_LR hka hkr (fun i σ' H' => Ex H H' ∧ H' l = some (.lst (((ks.take i).map fun k => k.1).map V.str)) ∧ ∃ u w x, σ' = [some (.ref ka), some (.ref l), u, w, x]) ⟨G0.e0, upd_same, _, _, _, rfl⟩ (fun i σ' H' ⟨e1, _⟩ => e.trans e1) ?_ ?_
    · rintro i x v σ' H' hx ⟨xa, rfl, hxa⟩ ⟨e1, hHl, u, w, y, rfl⟩
      have hxm := List.mem_of_getElem? hx
      refine ⟨xa, _, rfl, ex_t (e.trans e1) hxa, rfl, _, _, rfl, _, _, rfl, _, _, rfl, rfl, ?_⟩
      refine ⟨_, rfl, x.1, rfl, hok.nm x hxm, fun H2 e2 => ⟨_, rfl, ?_⟩⟩
      have hHl2 := e2 _ _ hHl
      have hnot : x.1 ∉ (ks.take i).map fun k => k.1 := fun hm => by
        obtain ⟨y, hy, hyx⟩ := List.mem_map.mp hm
        obtain ⟨j, hj, hjy⟩ := List.mem_iff_getElem.mp hy
        rw [List.length_take] at hj
        rw [List.getElem_take] at hjy
        obtain ⟨hi, hix⟩ := List.getElem?_eq_some_iff.mp hx
        have hnd := hok.nd
        rw [List.nodup_iff_pairwise_ne, List.pairwise_iff_getElem] at hnd
        refine hnd j i (by rw [List.length_map]; omega) (by rw [List.length_map]; omega) (by omega) ?_
        rw [List.getElem_map, List.getElem_map, hjy, hix, hyx]
      refine ⟨_, rfl, _, rfl, l, _, rfl, .inl (SqL.of hHl2), rfl, flat_strs _, ?_⟩
      rw [inV_not hnot]
      have q3 := hok.c x hxm
      have q4 := hok.d x hxm
      refine ⟨_, rfl, _, rfl, _, _, rfl, rfl, _, rfl, ?_⟩
      rw [decide_eq_true q3.1]
      refine ⟨_, _, rfl, rfl, _, rfl, ?_⟩
      rw [decide_eq_true q3.2]
      refine ⟨_, rfl, _, _, rfl, rfl, _, rfl, ?_⟩
      rw [decide_eq_true q4.1]
      refine ⟨_, _, rfl, rfl, _, rfl, ?_⟩
      rw [decide_eq_true q4.2]
      refine ⟨_, rfl, .inl ⟨rfl, _, SqL.of hHl2⟩, _, rfl, l, _, _, rfl, rfl, hHl2, sz_lt (by rw [List.length_map, List.length_map, List.length_take]; omega), ?_⟩
      refine ⟨fun b o hb => ?_, ?_, _, _, _, rfl⟩
      · rw [upd_ne (ne_of_none hb hlN)]
        exact (e1.trans e2) b o hb
      · rw [upd_same, take_succ_get hx, List.map_append, List.map_append]
        rfl
    · rintro σ' H' ⟨e1, hHl, u, w, y, rfl⟩
      exact q.go e1
theorem ok_are_ways {P : Program} {w : World} {K : PySem.W.Frag} {mg : Str → Option Value} {base : Heap} {CT CS CB : Addr} {f : Addr} {fd : FuncData} (F : Fun K "are_ways" "are_ways" s_are_ways f fd) (T : Tx K mg CT CS CB)  :
    FnOk P w K mg base CX0 1 f fd P_are_ways (sp_are_ways K) := by
  refine F.ok sc_are_ways (fun vs H Q E h => ?_) (fun cdv A outer s H vs Q E hr h => ?_)
  · obtain ⟨B, wv, nv, ks, ws, rfl, _⟩ := h
    rfl
  · obtain ⟨B, wv, nv, ks, ws, rfl, e, hw, ⟨na, rfl, hna⟩, hok, q⟩ := h
    rcases hw with ⟨wa, wvs, rfl, hwa, hwr⟩ | ⟨wa, wvs, rfl, hwa, hwr⟩
    · refine ⟨_, (pss_cons (ps_if (pt_cmpR op_gt (pe_callB call_len_seq rfl T.len PySem.boot_len (pa_cons (pv 0) pa_nil)) (pe_gl rfl T.c_MOST_WAYS) (nomark _)) (pss_one (ps_ret pe_bl)) pss_nil)
    (pss_cons (ps_for PassesOwn.never rfl (pi_list (pv 0)) (pg_tup rfl (pgs_cons (pg_name (i := 2) sc_are_ways.nd rfl (Or.inl rfl)) (pgs_cons (pg_name (i := 3) sc_are_ways.nd rfl (Or.inl rfl)) (pgs_cons (pg_name (i := 4) sc_are_ways.nd rfl (Or.inl rfl)) pgs_nil)))) (pss_cons (ps_if (PW.pt (pw_or (pt_cmpR op_notIn_seq (pv 2) (pv 1) rfl) (pw_or1 (pt_cmpR op_notIn_seq (pv 3) (pv 1) rfl)))) (pss_one (ps_ret pe_bl)) pss_nil)
    (pss_one (ps_if (pt_not (pt_chain op_le op_le pe_int (pv 4) (pe_gl rfl T.c_MOST_DISTANCE))) (pss_one (ps_ret pe_bl)) pss_nil))))
    (pss_one (ps_ret pe_bl)))), ?_⟩
      refine ⟨_, rfl, wa, _, rfl, .inl (ex_l e hwa), ?_⟩
      have hl := hwr.len
      have hle := hok.le
      walk_at "go"
      refine ited (fun c => absurd c (by omega)) (fun c => ?_)
      refine ⟨_, rfl, wa, rfl, ⟨_, ex_l e hwa⟩, ?_⟩
      refine for_LR hwa hwr (fun i σ' H' => Ex H H' ∧ ∃ u w x, σ' = [some (.ref wa), some (.ref na), u, w, x]) ⟨Ex.refl _, _, _, _, rfl⟩ (fun i σ' H' ⟨e1, _⟩ => e.trans e1) ?_ ?_
      · rintro i x v σ' H' hx ⟨xa, rfl, hxa⟩ ⟨e1, u, w, y, rfl⟩
        have hxm := List.mem_of_getElem? hx
        refine ⟨xa, _, rfl, ex_t (e.trans e1) hxa, rfl, _, _, rfl, _, _, rfl, _, _, rfl, rfl, ?_⟩
        have hna1 := ex_l (e.trans e1) hna
        have q1 := inV_strs (hok.s x hxm)
        have q2 := inV_strs (hok.t x hxm)
        have q3 := hok.d x hxm
        refine ⟨_, rfl, _, rfl, na, _, rfl, .inl hna1, rfl, flat_strs _, ?_⟩
        rw [q1]
        refine ⟨_, rfl, _, rfl, _, rfl, na, _, rfl, .inl hna1, rfl, flat_strs _, ?_⟩
        rw [q2]
        refine ⟨_, rfl, _, rfl, _, _, rfl, rfl, _, rfl, ?_⟩
        rw [decide_eq_true q3.1]
        refine ⟨_, _, rfl, rfl, _, rfl, ?_⟩
        rw [decide_eq_true q3.2]
        exact ⟨e1, _, _, _, rfl⟩
      · rintro σ' H' ⟨e1, u, w, y, rfl⟩
        exact q.go e1
    · refine ⟨_, (pss_cons (ps_if (pt_cmpR op_gt (pe_callB call_len_seq rfl T.len PySem.boot_len (pa_cons (pv 0) pa_nil)) (pe_gl rfl T.c_MOST_WAYS) (nomark _)) (pss_one (ps_ret pe_bl)) pss_nil)
    (pss_cons (ps_for PassesOwn.never rfl (pi_tup (pv 0)) (pg_tup rfl (pgs_cons (pg_name (i := 2) sc_are_ways.nd rfl (Or.inl rfl)) (pgs_cons (pg_name (i := 3) sc_are_ways.nd rfl (Or.inl rfl)) (pgs_cons (pg_name (i := 4) sc_are_ways.nd rfl (Or.inl rfl)) pgs_nil)))) (pss_cons (ps_if (PW.pt (pw_or (pt_cmpR op_notIn_seq (pv 2) (pv 1) rfl) (pw_or1 (pt_cmpR op_notIn_seq (pv 3) (pv 1) rfl)))) (pss_one (ps_ret pe_bl)) pss_nil)
    (pss_one (ps_if (pt_not (pt_chain op_le op_le pe_int (pv 4) (pe_gl rfl T.c_MOST_DISTANCE))) (pss_one (ps_ret pe_bl)) pss_nil))))
    (pss_one (ps_ret pe_bl)))), ?_⟩
      refine ⟨_, rfl, wa, _, rfl, .inr (ex_t e hwa), ?_⟩
      have hl := hwr.len
      have hle := hok.le
      walk_at "go"
      refine ited (fun c => absurd c (by omega)) (fun c => ?_)
      refine ⟨_, rfl, wa, rfl, ⟨_, ex_t e hwa⟩, ?_⟩
      refine for_TR hwa hwr (fun i σ' H' => Ex H H' ∧ ∃ u w x, σ' = [some (.ref wa), some (.ref na), u, w, x]) ⟨Ex.refl _, _, _, _, rfl⟩ (fun i σ' H' ⟨e1, _⟩ => e.trans e1) ?_ ?_
      · rintro i x v σ' H' hx ⟨xa, rfl, hxa⟩ ⟨e1, u, w, y, rfl⟩
        have hxm := List.mem_of_getElem? hx
        refine ⟨xa, _, rfl, ex_t (e.trans e1) hxa, rfl, _, _, rfl, _, _, rfl, _, _, rfl, rfl, ?_⟩
        have hna1 := ex_l (e.trans e1) hna
        have q1 := inV_strs (hok.s x hxm)
        have q2 := inV_strs (hok.t x hxm)
        have q3 := hok.d x hxm
        refine ⟨_, rfl, _, rfl, na, _, rfl, .inl hna1, rfl, flat_strs _, ?_⟩
        rw [q1]
        refine ⟨_, rfl, _, rfl, _, rfl, na, _, rfl, .inl hna1, rfl, flat_strs _, ?_⟩
        rw [q2]
        refine ⟨_, rfl, _, rfl, _, _, rfl, rfl, _, rfl, ?_⟩
        rw [decide_eq_true q3.1]
        refine ⟨_, _, rfl, rfl, _, rfl, ?_⟩
        rw [decide_eq_true q3.2]
        exact ⟨e1, _, _, _, rfl⟩
      · rintro σ' H' ⟨e1, u, w, y, rfl⟩
        exact q.go e1
theorem ok_is_table {P : Program} {w : World} {K : PySem.W.Frag} {mg : Str → Option Value} {base : Heap} {CT CS CB : Addr} {f : Addr} {fd : FuncData} (F : Fun K "is_table" "is_table" s_is_table f fd) (T : Tx K mg CT CS CB)  :
    FnOk P w K mg base CX0 1 f fd P_is_table (sp_is_table K) := by
  refine F.ok sc_is_table (fun vs H Q E h => ?_) (fun cdv A outer s H vs Q E hr h => ?_)
  · obtain ⟨B, bv, tb, rfl, _⟩ := h
    rfl
  · obtain ⟨B, bv, tb, rfl, e, hb, ⟨hb1, hb2, hb3⟩, q⟩ := h
    rcases hb with ⟨ba, rfl, hba⟩ | ⟨ba, rfl, hba⟩
    · refine ⟨_, (pss_cons (ps_if (pt_not (pt_chain op_le op_le pe_int (pe_callB call_len_seq rfl T.len PySem.boot_len (pa_cons (pv 0) pa_nil)) (pe_gl rfl T.c_MOST_SLOTS))) (pss_one (ps_ret pe_bl)) pss_nil)
    (pss_one (ps_ret (pe_callB (cr_all rfl) rfl T.all boot_all (pa_cons (pe_lc (own := [("capacity", 1)])  rfl sc_is_table.nd  (pi_list (pv 0)) (blkOk_by (N := N_is_table) (sc := defScope s_is_table) (by decide +kernel)) (fun _ _ _ _ _ => pg_name (i := 1) sc_is_table.nd rfl (Or.inl rfl)) (fun _ _ _ _ _ => pts_nil) (fun _ _ _ _ _ => (pe_chain op_le op_le pe_int (pv 1) (pe_gl rfl T.c_MOST_CAPACITY)))) pa_nil))))), ?_⟩
      refine ⟨_, rfl, ba, _, rfl, .inl (ex_l e hba), ?_⟩
      rw [List.length_map]
      walk_at "go"
      refine ited (fun c => ?_) (fun c => absurd c (by omega))
      walk_at "go"
      have hd : decide ((tb.length : Int) ≤ 1001) = true := decide_eq_true (by omega)
      rw [hd]
      dsimp only [Bool.not_true]
      rw [if_neg (show ¬ (!true) = true by decide)]
      dsimp only [tNext, tRet, tCB, tCons]
      refine tlc_LR mono_B (fun R r => ⟨_, rfl, ba, rfl, ⟨_, ex_l e hba⟩, r⟩) (Sg.refl e) hba (Pr.of_ints tb) (fun _ => true) (fun _ => true) (by omega) ?_ ?_
      · intro x v N' H' hx hv eN G
        cases hv
        intro Nn Y hn hy
        refine ⟨rfl, ?_⟩
        walk_at "go"
        have h3 := hb3 x hx
        refine ited (fun c => ?_) (fun c => absurd h3.1 c)
        walk_at "go"
        show Y (.bl (decide (x ≤ 1000000))) H'
        rw [decide_eq_true h3.2]
        exact hy rfl _ _ _ (Sg.refl G.eH) rfl
      · intro v N' H' eN G r
        obtain ⟨a, vs, rfl, ha, hr⟩ := r
        have := hr.bools
        subst this
        refine ⟨a, _, rfl, ex_l G.eH ha, ?_⟩
        rw [filtT, all_trues]
        exact q.go G.e0
    · refine ⟨_, (pss_cons (ps_if (pt_not (pt_chain op_le op_le pe_int (pe_callB call_len_seq rfl T.len PySem.boot_len (pa_cons (pv 0) pa_nil)) (pe_gl rfl T.c_MOST_SLOTS))) (pss_one (ps_ret pe_bl)) pss_nil)
    (pss_one (ps_ret (pe_callB (cr_all rfl) rfl T.all boot_all (pa_cons (pe_lc (own := [("capacity", 1)])  rfl sc_is_table.nd  (pi_tup (pv 0)) (blkOk_by (N := N_is_table) (sc := defScope s_is_table) (by decide +kernel)) (fun _ _ _ _ _ => pg_name (i := 1) sc_is_table.nd rfl (Or.inl rfl)) (fun _ _ _ _ _ => pts_nil) (fun _ _ _ _ _ => (pe_chain op_le op_le pe_int (pv 1) (pe_gl rfl T.c_MOST_CAPACITY)))) pa_nil))))), ?_⟩
      refine ⟨_, rfl, ba, _, rfl, .inr (ex_t e hba), ?_⟩
      rw [List.length_map]
      walk_at "go"
      refine ited (fun c => ?_) (fun c => absurd c (by omega))
      walk_at "go"
      have hd : decide ((tb.length : Int) ≤ 1001) = true := decide_eq_true (by omega)
      rw [hd]
      dsimp only [Bool.not_true]
      rw [if_neg (show ¬ (!true) = true by decide)]
      dsimp only [tNext, tRet, tCB, tCons]
      refine tlc_TR mono_B (fun R r => ⟨_, rfl, ba, rfl, ⟨_, ex_t e hba⟩, r⟩) (Sg.refl e) hba (Pr.of_ints tb) (fun _ => true) (fun _ => true) (by omega) ?_ ?_
      · intro x v N' H' hx hv eN G
        cases hv
        intro Nn Y hn hy
        refine ⟨rfl, ?_⟩
        walk_at "go"
        have h3 := hb3 x hx
        refine ited (fun c => ?_) (fun c => absurd h3.1 c)
        walk_at "go"
        show Y (.bl (decide (x ≤ 1000000))) H'
        rw [decide_eq_true h3.2]
        exact hy rfl _ _ _ (Sg.refl G.eH) rfl
      · intro v N' H' eN G r
        obtain ⟨a, vs, rfl, ha, hr⟩ := r
        have := hr.bools
        subst this
        refine ⟨a, _, rfl, ex_l G.eH ha, ?_⟩
        rw [filtT, all_trues]
        exact q.go G.e0
theorem ok_Task_init {P : Program} {w : World} {K : PySem.W.Frag} {mg : Str → Option Value} {base : Heap} {CT CS CB : Addr} {f : Addr} {fd : FuncData} (F : Fun K "__init__" "Task.__init__" s_Task_init f fd) (T : Tx K mg CT CS CB) {f_is_name : Addr} {fd_is_name : FuncData} {f_are_kinds : Addr} {fd_are_kinds : FuncData} {f_are_ways : Addr} {fd_are_ways : FuncData} (C_is_name : CalF P w K mg base "is_name" 1 P_is_name sp_is_name f_is_name fd_is_name) (C_are_kinds : CalF P w K mg base "are_kinds" 2 P_are_kinds (sp_are_kinds K) f_are_kinds fd_are_kinds) (C_are_ways : CalF P w K mg base "are_ways" 1 P_are_ways (sp_are_ways K) f_are_ways fd_are_ways) :
    FnOk P w K mg base CX0 3 f fd P_Task_init (sp_Task_init K CT) := by
  refine F.ok sc_Task_init (fun vs H Q E h => ?_) (fun cdv A outer s H vs Q E hr h => ?_)
  · obtain ⟨B, p, dx, T', kv, wv, rfl, _⟩ := h
    rfl
  · obtain ⟨B, p, dx, T', kv, wv, rfl, e, hBp, hp, ⟨ka, kvs, rfl, hka, hkr⟩, hw, hok, q⟩ := h
    rcases hw with ⟨wa, wvs, rfl, hwa, hwr⟩ | ⟨wa, wvs, rfl, hwa, hwr⟩
    · refine ⟨_, (pss_cons (ps_if (PW.pt (pw_or (pt_not (pt_val (pe_call C_is_name.ok (hr.mono (by decide)) rfl C_is_name.g C_is_name.kp C_is_name.b .nil pass0 (pa_cons (pv 1) pa_nil)))) (pw_or1 (pt_not (pt_val (pe_call C_are_kinds.ok (hr.mono (by decide)) rfl C_are_kinds.g C_are_kinds.kp C_are_kinds.b .nil pass0 (pa_cons (pv 2) pa_nil))))))) (pss_one ps_never) pss_nil)
    (pss_cons (ps_if (pt_not (pt_val (pe_call C_are_ways.ok (hr.mono (by decide)) rfl C_are_ways.g C_are_ways.kp C_are_ways.b .nil pass0 (pa_cons (pv 3) (pa_cons (pe_lc (own := [("kind", 4)])  rfl sc_Task_init.nd  (pi_list (pv 2)) (blkOk_by (N := N_Task_init) (sc := defScope s_Task_init) (by decide +kernel)) (fun _ _ _ _ _ => pg_name (i := 4) sc_Task_init.nd rfl (Or.inl rfl)) (fun _ _ _ _ _ => pts_nil) (fun _ _ _ _ _ => (pe_ix (ix_tupK K) (pv 4) pe_int (fun _ _ => rfl)))) pa_nil))))) (pss_one ps_never) pss_nil)
    (pss_cons (ps_fld (pv 0) (pv 1) rfl)
    (pss_cons (ps_fld (pv 0) (pe_callTy call_tuple_of rfl T.tuple boot_tuple (pa_cons (pe_lc (own := [("kind", 4)])  rfl sc_Task_init.nd  (pi_list (pv 2)) (blkOk_by (N := N_Task_init) (sc := defScope s_Task_init) (by decide +kernel)) (fun _ _ _ _ _ => pg_name (i := 4) sc_Task_init.nd rfl (Or.inl rfl)) (fun _ _ _ _ _ => pts_nil) (fun _ _ _ _ _ => (pe_tup (pa_cons (pe_ix (ix_tupK K) (pv 4) pe_int (fun _ _ => rfl)) (pa_cons (pe_ix (ix_tupK K) (pv 4) pe_int (fun _ _ => rfl)) (pa_cons (pe_ix (ix_tupK K) (pv 4) pe_int (fun _ _ => rfl)) pa_nil)))))) pa_nil)) rfl)
    (pss_one (ps_fld (pv 0) (pe_callTy call_tuple_of rfl T.tuple boot_tuple (pa_cons (pe_lc (own := [("way", 5)])  rfl sc_Task_init.nd  (pi_list (pv 3)) (blkOk_by (N := N_Task_init) (sc := defScope s_Task_init) (by decide +kernel)) (fun _ _ _ _ _ => pg_name (i := 5) sc_Task_init.nd rfl (Or.inl rfl)) (fun _ _ _ _ _ => pts_nil) (fun _ _ _ _ _ => (pe_tup (pa_cons (pe_ix (ix_tupK K) (pv 5) pe_int (fun _ _ => rfl)) (pa_cons (pe_ix (ix_tupK K) (pv 5) pe_int (fun _ _ => rfl)) (pa_cons (pe_ix (ix_tupK K) (pv 5) pe_int (fun _ _ => rfl)) pa_nil)))))) pa_nil)) rfl)))))), ?_⟩
      have I0 := Ig.start e hBp hp
      refine ⟨_, rfl, T'.name, rfl, hok.n, fun H1 e1 => ⟨_, rfl, ?_⟩⟩
      have I1 := I0.sg ((Sg.refl I0.eH).ext e1)
      refine ⟨_, rfl, B, _, T'.kinds, rfl, I1.eH, ⟨ka, kvs, rfl, hka, hkr⟩, hok.k, fun H2 e2 => ⟨_, rfl, ?_⟩⟩
      have I2 := I1.sg ((Sg.refl I1.eH).ext e2)
      dsimp only [tSeq, tNext, tIfS, tNot, tTest, tCall, tCons, Bool.not_true]
      rw [if_neg (show ¬ (!true) = true by decide)]
      refine ⟨_, rfl, ?_⟩
      refine tlc_LR (K := K) (S := rS) mono_S (fun R r => ⟨_, rfl, ka, rfl, ⟨_, ex_l I2.eH hka⟩, r⟩) (Sg.refl I2.eH) hka hkr (fun _ => true) (fun k => k.1) (Nat.le_trans hok.k.le (by decide)) ?_ ?_
      · rintro x v N' H' hx ⟨xa, hv, hxa⟩ eN G
        subst hv
        intro Nn Y hn hy
        have hxa' := ex_t (eN.trans G.eH) hxa
        refine ⟨rfl, ?_⟩
        walk_at "go"
        exact hy rfl _ _ _ (Sg.refl G.eH) rfl
      intro v3 N3 H3 eN3 G3 r3
      rw [filtT] at r3
      have I3 := I2.sg G3
      refine ⟨N3, _, v3, T'.kinds, T'.ways, rfl, G3.eH, .inl ⟨wa, wvs, rfl, ex_l eN3 hwa, Pr.mono mono_W3 eN3 hwr⟩, LS.of r3, hok.w, fun H4 e4 => ⟨_, rfl, ?_⟩⟩
      have I4 := I3.sg ((Sg.refl I3.eH).ext e4)
      dsimp only [Bool.not_true]
      rw [if_neg (show ¬ (!true) = true by decide)]
      refine ⟨_, rfl, _, rfl, p, CT, dx, _, rfl, I4.hp, T.clTask, T.naTask_name, by decide, ?_⟩
      have I5 := I4.put (putF "name" (.str T'.name) [])
      dsimp only [tSeq, sFld, tCB, tCons]
      refine tlc_LR (S := rK3 K) mono_K3 (fun R r => ⟨_, rfl, ka, rfl, ⟨_, ex_l (eN3.trans I5.eH) hka⟩, r⟩) (Sg.refl I5.eH) (ex_l eN3 hka) (Pr.mono mono_K3 eN3 hkr) (fun _ => true) (fun k => k) (Nat.le_trans hok.k.le (by decide)) ?_ ?_
      · rintro x v N' H' hx ⟨xa, hv, hxa⟩ eN G
        subst hv
        intro Nn Y hn hy
        have hxa' := ex_t (eN.trans G.eH) hxa
        refine ⟨rfl, ?_⟩
        walk_at "go"
        refine ⟨sz3, fun p hp => ?_⟩
        exact hy rfl _ _ _ ((Sg.refl G.eH).new hp) ⟨p, rfl, SqT.of upd_same⟩
      intro v6 N6 H6 eN6 G6 r6
      rw [filtT, List.map_id'] at r6
      obtain ⟨ra, rvs, rfl, hra, hrr⟩ := r6
      refine ⟨ra, rvs, rfl, .inl ⟨ex_l G6.eH hra, fun l hl => ?_⟩⟩
      have G7 := G6.new (o := .tup rvs) hl
      have I7 := I5.sg G7
      have hkt : TR K (rK3 K) T'.kinds (.ref l) (upd N6 l (.tup rvs)) := ⟨l, rvs, rfl, SqT.of upd_same, Pr.mono mono_K3 (ex_upd (G6.free hl).1) hrr⟩
      have e7 : Ex B (upd N6 l (.tup rvs)) := (eN3.trans eN6).trans (ex_upd (G6.free hl).1)
      refine ⟨_, rfl, p, CT, dx, _, rfl, I7.hp, T.clTask, T.naTask_kinds, fl1, ?_⟩
      have I8 := I7.put (putF "kinds" (.ref l) (putF "name" (.str T'.name) []))
      refine tlc_LR (S := rW3 K) mono_W3 (fun R r => ⟨_, rfl, wa, rfl, ⟨_, ex_l (e7.trans I8.eH) hwa⟩, r⟩) (Sg.refl I8.eH) (ex_l e7 hwa) (Pr.mono mono_W3 e7 hwr) (fun _ => true) (fun k => k) (Nat.le_trans hok.w.le (by decide)) ?_ ?_
      · rintro x v N' H' hx ⟨xa, hv, hxa⟩ eN G
        subst hv
        intro Nn Y hn hy
        have hxa' := ex_t (eN.trans G.eH) hxa
        refine ⟨rfl, ?_⟩
        walk_at "go"
        refine ⟨sz3, fun p hp => ?_⟩
        exact hy rfl _ _ _ ((Sg.refl G.eH).new hp) ⟨p, rfl, SqT.of upd_same⟩
      intro v9 N9 H9 eN9 G9 r9
      rw [filtT, List.map_id'] at r9
      obtain ⟨sa, svs, rfl, hsa, hsr⟩ := r9
      refine ⟨sa, svs, rfl, .inl ⟨ex_l G9.eH hsa, fun l2 hl2 => ?_⟩⟩
      have G10 := G9.new (o := .tup svs) hl2
      have I10 := I8.sg G10
      have e10 : Ex (upd N6 l (.tup rvs)) (upd N9 l2 (.tup svs)) := eN9.trans (ex_upd (G9.free hl2).1)
      refine ⟨_, rfl, p, CT, dx, _, rfl, I10.hp, T.clTask, T.naTask_ways, fl2, ?_⟩
      have I11 := I10.put (putF "ways" (.ref l2) (putF "kinds" (.ref l) (putF "name" (.str T'.name) [])))
      exact I11.ret q ⟨_, _, rfl, rfl, rfl, rfl, rfl, mono_TR mono_K3 _ _ _ _ e10 hkt, ⟨l2, svs, rfl, SqT.of upd_same, Pr.mono mono_W3 (ex_upd (G9.free hl2).1) hsr⟩⟩
    · refine ⟨_, (pss_cons (ps_if (PW.pt (pw_or (pt_not (pt_val (pe_call C_is_name.ok (hr.mono (by decide)) rfl C_is_name.g C_is_name.kp C_is_name.b .nil pass0 (pa_cons (pv 1) pa_nil)))) (pw_or1 (pt_not (pt_val (pe_call C_are_kinds.ok (hr.mono (by decide)) rfl C_are_kinds.g C_are_kinds.kp C_are_kinds.b .nil pass0 (pa_cons (pv 2) pa_nil))))))) (pss_one ps_never) pss_nil)
    (pss_cons (ps_if (pt_not (pt_val (pe_call C_are_ways.ok (hr.mono (by decide)) rfl C_are_ways.g C_are_ways.kp C_are_ways.b .nil pass0 (pa_cons (pv 3) (pa_cons (pe_lc (own := [("kind", 4)])  rfl sc_Task_init.nd  (pi_list (pv 2)) (blkOk_by (N := N_Task_init) (sc := defScope s_Task_init) (by decide +kernel)) (fun _ _ _ _ _ => pg_name (i := 4) sc_Task_init.nd rfl (Or.inl rfl)) (fun _ _ _ _ _ => pts_nil) (fun _ _ _ _ _ => (pe_ix (ix_tupK K) (pv 4) pe_int (fun _ _ => rfl)))) pa_nil))))) (pss_one ps_never) pss_nil)
    (pss_cons (ps_fld (pv 0) (pv 1) rfl)
    (pss_cons (ps_fld (pv 0) (pe_callTy call_tuple_of rfl T.tuple boot_tuple (pa_cons (pe_lc (own := [("kind", 4)])  rfl sc_Task_init.nd  (pi_list (pv 2)) (blkOk_by (N := N_Task_init) (sc := defScope s_Task_init) (by decide +kernel)) (fun _ _ _ _ _ => pg_name (i := 4) sc_Task_init.nd rfl (Or.inl rfl)) (fun _ _ _ _ _ => pts_nil) (fun _ _ _ _ _ => (pe_tup (pa_cons (pe_ix (ix_tupK K) (pv 4) pe_int (fun _ _ => rfl)) (pa_cons (pe_ix (ix_tupK K) (pv 4) pe_int (fun _ _ => rfl)) (pa_cons (pe_ix (ix_tupK K) (pv 4) pe_int (fun _ _ => rfl)) pa_nil)))))) pa_nil)) rfl)
    (pss_one (ps_fld (pv 0) (pe_callTy call_tuple_of rfl T.tuple boot_tuple (pa_cons (pe_lc (own := [("way", 5)])  rfl sc_Task_init.nd  (pi_tup (pv 3)) (blkOk_by (N := N_Task_init) (sc := defScope s_Task_init) (by decide +kernel)) (fun _ _ _ _ _ => pg_name (i := 5) sc_Task_init.nd rfl (Or.inl rfl)) (fun _ _ _ _ _ => pts_nil) (fun _ _ _ _ _ => (pe_tup (pa_cons (pe_ix (ix_tupK K) (pv 5) pe_int (fun _ _ => rfl)) (pa_cons (pe_ix (ix_tupK K) (pv 5) pe_int (fun _ _ => rfl)) (pa_cons (pe_ix (ix_tupK K) (pv 5) pe_int (fun _ _ => rfl)) pa_nil)))))) pa_nil)) rfl)))))), ?_⟩
      have I0 := Ig.start e hBp hp
      refine ⟨_, rfl, T'.name, rfl, hok.n, fun H1 e1 => ⟨_, rfl, ?_⟩⟩
      have I1 := I0.sg ((Sg.refl I0.eH).ext e1)
      refine ⟨_, rfl, B, _, T'.kinds, rfl, I1.eH, ⟨ka, kvs, rfl, hka, hkr⟩, hok.k, fun H2 e2 => ⟨_, rfl, ?_⟩⟩
      have I2 := I1.sg ((Sg.refl I1.eH).ext e2)
      dsimp only [tSeq, tNext, tIfS, tNot, tTest, tCall, tCons, Bool.not_true]
      rw [if_neg (show ¬ (!true) = true by decide)]
      refine ⟨_, rfl, ?_⟩
      refine tlc_LR (K := K) (S := rS) mono_S (fun R r => ⟨_, rfl, ka, rfl, ⟨_, ex_l I2.eH hka⟩, r⟩) (Sg.refl I2.eH) hka hkr (fun _ => true) (fun k => k.1) (Nat.le_trans hok.k.le (by decide)) ?_ ?_
      · rintro x v N' H' hx ⟨xa, hv, hxa⟩ eN G
        subst hv
        intro Nn Y hn hy
        have hxa' := ex_t (eN.trans G.eH) hxa
        refine ⟨rfl, ?_⟩
        walk_at "go"
        exact hy rfl _ _ _ (Sg.refl G.eH) rfl
      intro v3 N3 H3 eN3 G3 r3
      rw [filtT] at r3
      have I3 := I2.sg G3
      refine ⟨N3, _, v3, T'.kinds, T'.ways, rfl, G3.eH, .inr ⟨wa, wvs, rfl, ex_t eN3 hwa, Pr.mono mono_W3 eN3 hwr⟩, LS.of r3, hok.w, fun H4 e4 => ⟨_, rfl, ?_⟩⟩
      have I4 := I3.sg ((Sg.refl I3.eH).ext e4)
      dsimp only [Bool.not_true]
      rw [if_neg (show ¬ (!true) = true by decide)]
      refine ⟨_, rfl, _, rfl, p, CT, dx, _, rfl, I4.hp, T.clTask, T.naTask_name, by decide, ?_⟩
      have I5 := I4.put (putF "name" (.str T'.name) [])
      dsimp only [tSeq, sFld, tCB, tCons]
      refine tlc_LR (S := rK3 K) mono_K3 (fun R r => ⟨_, rfl, ka, rfl, ⟨_, ex_l (eN3.trans I5.eH) hka⟩, r⟩) (Sg.refl I5.eH) (ex_l eN3 hka) (Pr.mono mono_K3 eN3 hkr) (fun _ => true) (fun k => k) (Nat.le_trans hok.k.le (by decide)) ?_ ?_
      · rintro x v N' H' hx ⟨xa, hv, hxa⟩ eN G
        subst hv
        intro Nn Y hn hy
        have hxa' := ex_t (eN.trans G.eH) hxa
        refine ⟨rfl, ?_⟩
        walk_at "go"
        refine ⟨sz3, fun p hp => ?_⟩
        exact hy rfl _ _ _ ((Sg.refl G.eH).new hp) ⟨p, rfl, SqT.of upd_same⟩
      intro v6 N6 H6 eN6 G6 r6
      rw [filtT, List.map_id'] at r6
      obtain ⟨ra, rvs, rfl, hra, hrr⟩ := r6
      refine ⟨ra, rvs, rfl, .inl ⟨ex_l G6.eH hra, fun l hl => ?_⟩⟩
      have G7 := G6.new (o := .tup rvs) hl
      have I7 := I5.sg G7
      have hkt : TR K (rK3 K) T'.kinds (.ref l) (upd N6 l (.tup rvs)) := ⟨l, rvs, rfl, SqT.of upd_same, Pr.mono mono_K3 (ex_upd (G6.free hl).1) hrr⟩
      have e7 : Ex B (upd N6 l (.tup rvs)) := (eN3.trans eN6).trans (ex_upd (G6.free hl).1)
      refine ⟨_, rfl, p, CT, dx, _, rfl, I7.hp, T.clTask, T.naTask_kinds, fl1, ?_⟩
      have I8 := I7.put (putF "kinds" (.ref l) (putF "name" (.str T'.name) []))
      refine tlc_TR (S := rW3 K) mono_W3 (fun R r => ⟨_, rfl, wa, rfl, ⟨_, ex_t (e7.trans I8.eH) hwa⟩, r⟩) (Sg.refl I8.eH) (ex_t e7 hwa) (Pr.mono mono_W3 e7 hwr) (fun _ => true) (fun k => k) (Nat.le_trans hok.w.le (by decide)) ?_ ?_
      · rintro x v N' H' hx ⟨xa, hv, hxa⟩ eN G
        subst hv
        intro Nn Y hn hy
        have hxa' := ex_t (eN.trans G.eH) hxa
        refine ⟨rfl, ?_⟩
        walk_at "go"
        refine ⟨sz3, fun p hp => ?_⟩
        exact hy rfl _ _ _ ((Sg.refl G.eH).new hp) ⟨p, rfl, SqT.of upd_same⟩
      intro v9 N9 H9 eN9 G9 r9
      rw [filtT, List.map_id'] at r9
      obtain ⟨sa, svs, rfl, hsa, hsr⟩ := r9
      refine ⟨sa, svs, rfl, .inl ⟨ex_l G9.eH hsa, fun l2 hl2 => ?_⟩⟩
      have G10 := G9.new (o := .tup svs) hl2
      have I10 := I8.sg G10
      have e10 : Ex (upd N6 l (.tup rvs)) (upd N9 l2 (.tup svs)) := eN9.trans (ex_upd (G9.free hl2).1)
      refine ⟨_, rfl, p, CT, dx, _, rfl, I10.hp, T.clTask, T.naTask_ways, fl2, ?_⟩
      have I11 := I10.put (putF "ways" (.ref l2) (putF "kinds" (.ref l) (putF "name" (.str T'.name) [])))
      exact I11.ret q ⟨_, _, rfl, rfl, rfl, rfl, rfl, mono_TR mono_K3 _ _ _ _ e10 hkt, ⟨l2, svs, rfl, SqT.of upd_same, Pr.mono mono_W3 (ex_upd (G9.free hl2).1) hsr⟩⟩
theorem ok_System_init {P : Program} {w : World} {K : PySem.W.Frag} {mg : Str → Option Value} {base : Heap} {CT CS CB : Addr} {f : Addr} {fd : FuncData} (F : Fun K "__init__" "System.__init__" s_System_init f fd) (T : Tx K mg CT CS CB) {f_is_table : Addr} {fd_is_table : FuncData} (C_is_table : CalF P w K mg base "is_table" 1 P_is_table (sp_is_table K) f_is_table fd_is_table) :
    FnOk P w K mg base CX0 2 f fd P_System_init (sp_System_init K CT CS) := by
  refine F.ok sc_System_init (fun vs H Q E h => ?_) (fun cdv A outer s H vs Q E hr h => ?_)
  · obtain ⟨B, p, dx, Ts, tb, tv, bv, rfl, _⟩ := h
    rfl
  · obtain ⟨B, p, dx, Ts, tb, tv, bv, rfl, e, hBp, hp, ⟨ta, tvs, rfl, hta, htr⟩, hb, hok, q⟩ := h
    rcases hb with ⟨ba, rfl, hba⟩ | ⟨ba, rfl, hba⟩
    · refine ⟨_, (pss_cons (ps_if (pt_not (pt_val (pe_call C_is_table.ok (hr.mono (by decide)) rfl C_is_table.g C_is_table.kp C_is_table.b .nil pass0 (pa_cons (pv 2) pa_nil)))) (pss_one ps_never) pss_nil)
    (pss_cons (ps_set (i := 3) sc_System_init.nd rfl (Or.inl rfl) (pe_lst pa_nil))
    (pss_cons (ps_for PassesOwn.never rfl (pi_list (pv 1)) (pg_name (i := 4) sc_System_init.nd rfl (Or.inl rfl)) (pss_cons (ps_if (pt_cmpR op_in_seq (pe_fld (pv 4) rfl) (pv 3) rfl) (pss_one ps_never) pss_nil)
    (pss_one (ps_expr (pe_bm PySem.F.plainAttrs_list PySem.F.slot_list_append PySem.F.type_list_append mt_append (pv 3) (pa_cons (pe_fld (pv 4) rfl) pa_nil))))))
    (pss_cons (ps_if (pt_cmpR op_gt (pe_callB call_len_seq rfl T.len PySem.boot_len (pa_cons (pv 3) pa_nil)) (pe_gl rfl T.c_MOST_TASKS) (nomark _)) (pss_one ps_never) pss_nil)
    (pss_cons (ps_fld (pv 0) (pe_callTy call_tuple_of rfl T.tuple boot_tuple (pa_cons (pv 1) pa_nil)) rfl)
    (pss_one (ps_fld (pv 0) (pe_callTy call_tuple_of rfl T.tuple boot_tuple (pa_cons (pv 2) pa_nil)) rfl))))))), ?_⟩
      have I0 := Ig.start e hBp hp
      refine ⟨_, rfl, B, _, tb, rfl, e, .inl ⟨ba, rfl, hba⟩, hok.b, fun H1 e1 => ⟨_, rfl, ?_⟩⟩
      have I1 := I0.sg ((Sg.refl I0.eH).ext e1)
      dsimp only [Bool.not_true]
      rw [if_neg (show ¬ (!true) = true by decide)]
      refine ⟨sz0, fun l hl => ?_⟩
      have hHl : H l = none := by
        cases h : H l with
        | none => rfl
        | some o =>
          rw [e1 _ _ h] at hl
          cases hl
      have hBl := Evl.fresh_back e hHl
      have hpl : p ≠ l := fun h => by rw [← h, hp] at hHl; cases hHl
      have I2 := I1.mut (o := .lst []) hBl hHl hpl
      refine ⟨_, rfl, ta, rfl, ⟨_, ex_l I2.eH hta⟩, ?_⟩
      refine for_LR hta htr (fun i σ' H' => Ig CS p dx [] B H B H' ∧ H' l = some (.lst (((Ts.take i).map fun T => T.name).map V.str)) ∧ ∃ u, σ' = [some (.ref p), some (.ref ta), some (.ref ba), some (.ref l), u]) ⟨I2, upd_same, _, rfl⟩ (fun i σ' H' ⟨I3, _⟩ => I3.eH) ?_ ?_
      · rintro i T0 v σ' H' hx ⟨pt, dxt, fst, kv, wv, rfl, hpt, hnm, _⟩ ⟨I3, hHl3, u, rfl⟩
        refine ⟨_, rfl, pt, CT, dxt, fst, _, rfl, I3.eH _ _ hpt, T.clTask, T.naTask_name, hnm, ?_⟩
        have hnot : T0.name ∉ (Ts.take i).map fun T => T.name := fun hm => by
          obtain ⟨y, hy, hyx⟩ := List.mem_map.mp hm
          obtain ⟨j, hj, hjy⟩ := List.mem_iff_getElem.mp hy
          rw [List.length_take] at hj
          rw [List.getElem_take] at hjy
          obtain ⟨hi, hix⟩ := List.getElem?_eq_some_iff.mp hx
          have hnd := hok.nd
          rw [List.nodup_iff_pairwise_ne, List.pairwise_iff_getElem] at hnd
          refine hnd j i (by rw [List.length_map]; omega) (by rw [List.length_map]; omega) (by omega) ?_
          rw [List.getElem_map, List.getElem_map, hjy, hix, hyx]
        refine ⟨_, rfl, l, _, rfl, .inl (SqL.of hHl3), rfl, flat_strs _, ?_⟩
        rw [inV_not hnot]
        refine ⟨_, rfl, ?_⟩
        refine ⟨_, rfl, .inl ⟨rfl, _, SqL.of hHl3⟩, _, rfl, pt, CT, dxt, fst, _, rfl, I3.eH _ _ hpt, T.clTask, T.naTask_name, hnm, l, _, _, rfl, rfl, hHl3, sz_lt (by have := hok.le; rw [List.length_map, List.length_map, List.length_take]; omega), ?_⟩
        refine ⟨I3.mut hBl hHl hpl, ?_, _, rfl⟩
        rw [upd_same, take_succ_get hx, List.map_append, List.map_append]
        rfl
      · rintro σ' H' ⟨I3, hHl3, u, rfl⟩
        have hle := hok.le
        refine ⟨_, rfl, l, _, rfl, .inl (SqL.of hHl3), ?_⟩
        rw [List.length_map, List.length_map, List.length_take]
        walk_at "go"
        refine ited (fun c => absurd c (by omega)) (fun c => ?_)
        refine ⟨_, rfl, ta, tvs, rfl, .inl ⟨ex_l I3.eH hta, fun l2 hl2 => ?_⟩⟩
        have G4 := (Sg.refl I3.eH).new (o := .tup tvs) hl2
        have I4 := I3.sg G4
        have htt : TR K (rT K CT) Ts (.ref l2) (upd B l2 (.tup tvs)) := ⟨l2, tvs, rfl, SqT.of upd_same, Pr.mono mono_T G4.eN htr⟩
        refine ⟨_, rfl, p, CS, dx, _, rfl, I4.hp, T.clSystem, T.naSystem_tasks, by decide, ?_⟩
        have I5 := I4.put (putF "tasks" (.ref l2) [])
        refine ⟨_, rfl, ba, _, rfl, .inl ⟨ex_l (G4.eN.trans I5.eH) hba, fun l3 hl3 => ?_⟩⟩
        have G6 := (Sg.refl I5.eH).new (o := .tup (tb.map V.int)) hl3
        have I6 := I5.sg G6
        refine ⟨_, rfl, p, CS, dx, _, rfl, I6.hp, T.clSystem, T.naSystem_table, fl1, ?_⟩
        have I7 := I6.put (putF "table" (.ref l3) (putF "tasks" (.ref l2) []))
        exact I7.ret q ⟨_, _, rfl, rfl, mono_TR mono_T _ _ _ _ G6.eN htt, ⟨l3, rfl, SqT.of upd_same⟩⟩
    · refine ⟨_, (pss_cons (ps_if (pt_not (pt_val (pe_call C_is_table.ok (hr.mono (by decide)) rfl C_is_table.g C_is_table.kp C_is_table.b .nil pass0 (pa_cons (pv 2) pa_nil)))) (pss_one ps_never) pss_nil)
    (pss_cons (ps_set (i := 3) sc_System_init.nd rfl (Or.inl rfl) (pe_lst pa_nil))
    (pss_cons (ps_for PassesOwn.never rfl (pi_list (pv 1)) (pg_name (i := 4) sc_System_init.nd rfl (Or.inl rfl)) (pss_cons (ps_if (pt_cmpR op_in_seq (pe_fld (pv 4) rfl) (pv 3) rfl) (pss_one ps_never) pss_nil)
    (pss_one (ps_expr (pe_bm PySem.F.plainAttrs_list PySem.F.slot_list_append PySem.F.type_list_append mt_append (pv 3) (pa_cons (pe_fld (pv 4) rfl) pa_nil))))))
    (pss_cons (ps_if (pt_cmpR op_gt (pe_callB call_len_seq rfl T.len PySem.boot_len (pa_cons (pv 3) pa_nil)) (pe_gl rfl T.c_MOST_TASKS) (nomark _)) (pss_one ps_never) pss_nil)
    (pss_cons (ps_fld (pv 0) (pe_callTy call_tuple_of rfl T.tuple boot_tuple (pa_cons (pv 1) pa_nil)) rfl)
    (pss_one (ps_fld (pv 0) (pe_callTy call_tuple_of rfl T.tuple boot_tuple (pa_cons (pv 2) pa_nil)) rfl))))))), ?_⟩
      have I0 := Ig.start e hBp hp
      refine ⟨_, rfl, B, _, tb, rfl, e, .inr ⟨ba, rfl, hba⟩, hok.b, fun H1 e1 => ⟨_, rfl, ?_⟩⟩
      have I1 := I0.sg ((Sg.refl I0.eH).ext e1)
      dsimp only [Bool.not_true]
      rw [if_neg (show ¬ (!true) = true by decide)]
      refine ⟨sz0, fun l hl => ?_⟩
      have hHl : H l = none := by
        cases h : H l with
        | none => rfl
        | some o =>
          rw [e1 _ _ h] at hl
          cases hl
      have hBl := Evl.fresh_back e hHl
      have hpl : p ≠ l := fun h => by rw [← h, hp] at hHl; cases hHl
      have I2 := I1.mut (o := .lst []) hBl hHl hpl
      refine ⟨_, rfl, ta, rfl, ⟨_, ex_l I2.eH hta⟩, ?_⟩
      refine for_LR hta htr (fun i σ' H' => Ig CS p dx [] B H B H' ∧ H' l = some (.lst (((Ts.take i).map fun T => T.name).map V.str)) ∧ ∃ u, σ' = [some (.ref p), some (.ref ta), some (.ref ba), some (.ref l), u]) ⟨I2, upd_same, _, rfl⟩ (fun i σ' H' ⟨I3, _⟩ => I3.eH) ?_ ?_
      · rintro i T0 v σ' H' hx ⟨pt, dxt, fst, kv, wv, rfl, hpt, hnm, _⟩ ⟨I3, hHl3, u, rfl⟩
        refine ⟨_, rfl, pt, CT, dxt, fst, _, rfl, I3.eH _ _ hpt, T.clTask, T.naTask_name, hnm, ?_⟩
        have hnot : T0.name ∉ (Ts.take i).map fun T => T.name := fun hm => by
          obtain ⟨y, hy, hyx⟩ := List.mem_map.mp hm
          obtain ⟨j, hj, hjy⟩ := List.mem_iff_getElem.mp hy
          rw [List.length_take] at hj
          rw [List.getElem_take] at hjy
          obtain ⟨hi, hix⟩ := List.getElem?_eq_some_iff.mp hx
          have hnd := hok.nd
          rw [List.nodup_iff_pairwise_ne, List.pairwise_iff_getElem] at hnd
          refine hnd j i (by rw [List.length_map]; omega) (by rw [List.length_map]; omega) (by omega) ?_
          rw [List.getElem_map, List.getElem_map, hjy, hix, hyx]
        refine ⟨_, rfl, l, _, rfl, .inl (SqL.of hHl3), rfl, flat_strs _, ?_⟩
        rw [inV_not hnot]
        refine ⟨_, rfl, ?_⟩
        refine ⟨_, rfl, .inl ⟨rfl, _, SqL.of hHl3⟩, _, rfl, pt, CT, dxt, fst, _, rfl, I3.eH _ _ hpt, T.clTask, T.naTask_name, hnm, l, _, _, rfl, rfl, hHl3, sz_lt (by have := hok.le; rw [List.length_map, List.length_map, List.length_take]; omega), ?_⟩
        refine ⟨I3.mut hBl hHl hpl, ?_, _, rfl⟩
        rw [upd_same, take_succ_get hx, List.map_append, List.map_append]
        rfl
      · rintro σ' H' ⟨I3, hHl3, u, rfl⟩
        have hle := hok.le
        refine ⟨_, rfl, l, _, rfl, .inl (SqL.of hHl3), ?_⟩
        rw [List.length_map, List.length_map, List.length_take]
        walk_at "go"
        refine ited (fun c => absurd c (by omega)) (fun c => ?_)
        refine ⟨_, rfl, ta, tvs, rfl, .inl ⟨ex_l I3.eH hta, fun l2 hl2 => ?_⟩⟩
        have G4 := (Sg.refl I3.eH).new (o := .tup tvs) hl2
        have I4 := I3.sg G4
        have htt : TR K (rT K CT) Ts (.ref l2) (upd B l2 (.tup tvs)) := ⟨l2, tvs, rfl, SqT.of upd_same, Pr.mono mono_T G4.eN htr⟩
        refine ⟨_, rfl, p, CS, dx, _, rfl, I4.hp, T.clSystem, T.naSystem_tasks, by decide, ?_⟩
        have I5 := I4.put (putF "tasks" (.ref l2) [])
        refine ⟨_, rfl, ba, _, rfl, .inr ⟨ex_t (G4.eN.trans I5.eH) hba, ?_⟩⟩
        refine ⟨_, rfl, p, CS, dx, _, rfl, I5.hp, T.clSystem, T.naSystem_table, fl1, ?_⟩
        have I7 := I5.put (putF "table" (.ref ba) (putF "tasks" (.ref l2) []))
        exact I7.ret q ⟨_, _, rfl, rfl, htt, ⟨ba, rfl, ex_t G4.eN hba⟩⟩
theorem ok_Backlog_init {P : Program} {w : World} {K : PySem.W.Frag} {mg : Str → Option Value} {base : Heap} {CT CS CB : Addr} {f : Addr} {fd : FuncData} (F : Fun K "__init__" "Backlog.__init__" s_Backlog_init f fd) (T : Tx K mg CT CS CB)  :
    FnOk P w K mg base CX0 1 f fd P_Backlog_init (sp_Backlog_init CB) := by
  refine F.ok sc_Backlog_init (fun vs H Q E h => ?_) (fun cdv A outer s H vs Q E hr h => ?_)
  · obtain ⟨B, p, dx, w', i, s', rv, rfl, _⟩ := h
    rfl
  · obtain ⟨B, p, dx, w', i, s', rv, rfl, e, hBp, hp, q⟩ := h
    refine ⟨_, (pss_cons (ps_fld (pv 0) (pv 1) rfl)
    (pss_cons (ps_fld (pv 0) (pv 2) rfl)
    (pss_cons (ps_fld (pv 0) (pv 3) rfl)
    (pss_one (ps_fld (pv 0) (pv 4) rfl))))), ?_⟩
    have I0 := Ig.start e hBp hp
    refine ⟨_, rfl, _, rfl, p, CB, dx, _, rfl, I0.hp, T.clBacklog, T.naBacklog_work, by decide, ?_⟩
    have I1 := I0.put (putF "work" (.int w') [])
    refine ⟨_, rfl, _, rfl, p, CB, dx, _, rfl, I1.hp, T.clBacklog, T.naBacklog_instant, fl1, ?_⟩
    have I2 := I1.put (putF "instant" (.int i) (putF "work" (.int w') []))
    refine ⟨_, rfl, _, rfl, p, CB, dx, _, rfl, I2.hp, T.clBacklog, T.naBacklog_start, fl2, ?_⟩
    have I3 := I2.put (putF "start" (.int s') (putF "instant" (.int i) (putF "work" (.int w') [])))
    refine ⟨_, rfl, _, rfl, p, CB, dx, _, rfl, I3.hp, T.clBacklog, T.naBacklog_releases, fl3, ?_⟩
    have I4 := I3.put (putF "releases" rv (putF "start" (.int s') (putF "instant" (.int i) (putF "work" (.int w') []))))
    exact I4.ret q ⟨rfl, rfl, rfl, rfl⟩
theorem ok_eager_task {P : Program} {w : World} {K : PySem.W.Frag} {mg : Str → Option Value} {base : Heap} {CT CS CB : Addr} {f : Addr} {fd : FuncData} (F : Fun K "eager_task" "eager_task" s_eager_task f fd) (T : Tx K mg CT CS CB) {f_Task_init : Addr} {fd_Task_init : FuncData} (C_Task_init : CalIK P w K mg base CT 3 2 ["kinds", "ways"] P_Task_init (sp_Task_init K CT) f_Task_init fd_Task_init) :
    FnOk P w K mg base CX0 5 f fd P_eager_task (sp_eager_task K CT) := by
  refine F.ok sc_eager_task (fun vs H Q E h => ?_) (fun cdv A outer s H vs Q E hr h => ?_)
  · obtain ⟨B, tv, T', rfl, _⟩ := h
    rfl
  · obtain ⟨B, tv, T', rfl, e, hT, hok, q⟩ := h
    refine ⟨_, (pss_cons (ps_setLc (i := 1) (own := [("kind", 2)])  rfl sc_eager_task.nd rfl rfl (sw_true rfl rfl rfl (by decide +kernel)) (pi_tup (pe_fld (pv 0) rfl)) (blkOk_by (N := N_eager_task) (sc := defScope s_eager_task) (by decide +kernel)) (fun _ _ _ _ _ => pg_name (i := 2) sc_eager_task.nd rfl (Or.inl rfl)) (fun _ _ _ _ _ => pts_nil) (fun _ _ _ _ _ => (pe_tup (pa_cons (pe_ix (ix_tupK K) (pv 2) pe_int (fun _ _ => rfl)) (pa_cons (pe_ix (ix_tupK K) (pv 2) pe_int (fun _ _ => rfl)) (pa_cons pe_int pa_nil))))))
    (pss_one (ps_ret (pe_makeK C_Task_init.mki C_Task_init.ok (hr.mono (by decide)) rfl T.gTask C_Task_init.kb pass0 (pa_cons (pe_fld (pv 0) rfl) pa_nil) (pk_cons (pv 1) (pk_cons (pe_fld (pv 0) rfl) pk_nil)))))), ?_⟩
    obtain ⟨p, dx, fs, kv, wv, rfl, hp, hnm, hk, hw, hkn, hwf, ⟨ka, kvs, rfl, hka, hkr⟩, hwr⟩ := id hT
    have hp' := e _ _ hp
    dsimp only [tSeq, tAsg]
    refine tlc_TR (S := rK3 K) mono_K3 (fun R r => ⟨_, rfl, p, CT, dx, fs, _, rfl, hp', T.clTask, T.naTask_kinds, hk, ka, rfl, ⟨_, ex_t e hka⟩, r⟩) (Sg.refl e) hka hkr (fun _ => true) (fun k => (k.1, k.2.1, 1)) (Nat.le_trans hok.k.le (by decide)) ?_ ?_
    · rintro x v N' H' hx ⟨xa, hv, hxa⟩ eN G
      subst hv
      intro Nn Y hn hy
      have hxa' := ex_t (eN.trans G.eH) hxa
      refine ⟨rfl, ?_⟩
      walk_at "go"
      refine ⟨sz3, fun p hp => ?_⟩
      exact hy rfl _ _ _ ((Sg.refl G.eH).new hp) ⟨p, rfl, SqT.of upd_same⟩
    · intro v N1 H1 eN1 G r
      rw [filtT] at r
      have hp1 := G.e0 _ _ hp'
      refine ⟨_, rfl, p, CT, dx, fs, _, rfl, hp1, T.clTask, T.naTask_name, hnm, _, rfl, _, rfl, p, CT, dx, fs, _, rfl, hp1, T.clTask, T.naTask_ways, hw, rfl, rfl, fun x dx2 hx hdx hne => ?_⟩
      refine ⟨N1, x, dx2, eagT T', _, _, rfl, G.eH.trans (ex_made hx hdx hne), (G.free hx).1, upd_same, r, .inr (mono_TR mono_W3 _ _ _ _ G.eN hwr), hok.eag, ?_⟩
      rintro N H' dx' fs' eN eH hkp hnw hNp hp2 ⟨kv2, wv2, w1, w2, w3, w4, w5, w6, w7⟩
      have eN2 := ex_upd (o := .ins CT dx' fs') hNp
      exact ⟨rfl, q.go (G.made hx hdx hne eN eH hkp hnw hNp hp2) ⟨x, dx', fs', kv2, wv2, rfl, upd_same, w1, w2, w3, w4, w5, mono_TR mono_K3 _ _ _ _ eN2 w6, mono_TR mono_W3 _ _ _ _ eN2 w7⟩⟩
theorem ok_eager {P : Program} {w : World} {K : PySem.W.Frag} {mg : Str → Option Value} {base : Heap} {CT CS CB : Addr} {f : Addr} {fd : FuncData} (F : Fun K "eager" "eager" s_eager f fd) (T : Tx K mg CT CS CB) {f_System_init : Addr} {fd_System_init : FuncData} {f_eager_task : Addr} {fd_eager_task : FuncData} (C_System_init : CalIK P w K mg base CS 2 2 ["table"] P_System_init (sp_System_init K CT CS) f_System_init fd_System_init) (C_eager_task : CalF P w K mg base "eager_task" 5 P_eager_task (sp_eager_task K CT) f_eager_task fd_eager_task) :
    FnOk P w K mg base CX0 6 f fd P_eager (sp_eager K CT CS) := by
  refine F.ok sc_eager (fun vs H Q E h => ?_) (fun cdv A outer s H vs Q E hr h => ?_)
  · obtain ⟨B, sv, Ts, tb, rfl, _⟩ := h
    rfl
  · obtain ⟨B, sv, Ts, tb, rfl, e, hS, hok, q⟩ := h
    refine ⟨_, (pss_one (ps_ret (pe_makeK C_System_init.mki C_System_init.ok (hr.mono (by decide)) rfl T.gSystem C_System_init.kb pass0 (pa_cons (pe_lc (own := [("task", 1)])  rfl sc_eager.nd  (pi_tup (pe_fld (pv 0) rfl)) (blkOk_by (N := N_eager) (sc := defScope s_eager) (by decide +kernel)) (fun _ _ _ _ _ => pg_name (i := 1) sc_eager.nd rfl (Or.inl rfl)) (fun _ _ _ _ _ => pts_nil) (fun _ _ _ _ _ => (pe_call C_eager_task.ok (hr.mono (by decide)) rfl C_eager_task.g C_eager_task.kp C_eager_task.b .nil pass0 (pa_cons (pv 1) pa_nil)))) pa_nil) (pk_cons (pe_fld (pv 0) rfl) pk_nil)))), ?_⟩
    obtain ⟨sp, sdx, sfs, tv, bv, rfl, hsp, htv, hbv, ⟨ta, tvs, rfl, hta, htr⟩, ⟨ba, rfl, hba⟩⟩ := id hS
    have hsp' := e _ _ hsp
    dsimp only at htr hba
    dsimp only [tRet, tMakeK, tCons]
    refine tlc_TR (S := rT K CT) mono_T (fun R r => ⟨_, rfl, sp, CS, sdx, sfs, _, rfl, hsp', T.clSystem, T.naSystem_tasks, htv, ta, rfl, ⟨_, ex_t e hta⟩, r⟩) (Sg.refl e) hta htr (fun _ => true) eagT (Nat.le_trans hok.le (by decide)) ?_ ?_
    · intro x v N' H' hx hT eN G Nn Y hn hy
      refine ⟨rfl, _, rfl, N', v, x, rfl, G.eH, mono_T _ _ _ _ eN hT, hok.t x hx, fun v2 N2 H2 G2 r2 => ?_⟩
      exact hy rfl _ _ _ G2 r2
    · intro v N1 H1 eN1 G r
      rw [filtT] at r
      have hsp1 := G.e0 _ _ hsp'
      refine ⟨_, rfl, sp, CS, sdx, sfs, _, rfl, hsp1, T.clSystem, T.naSystem_table, hbv, rfl, rfl, fun x dx2 hx hdx hne => ?_⟩
      refine ⟨N1, x, dx2, Ts.map eagT, tb, _, _, rfl, G.eH.trans (ex_made hx hdx hne), (G.free hx).1, upd_same, r, .inr ⟨ba, rfl, ex_t G.eN hba⟩, hok.eag, ?_⟩
      rintro N H' dx' fs' eN eH hkp hnw hNp hp2 ⟨tv2, bv2, w1, w2, w3, w4⟩
      have eN2 := ex_upd (o := .ins CS dx' fs') hNp
      exact ⟨rfl, q.go (G.made hx hdx hne eN eH hkp hnw hNp hp2) ⟨x, dx', fs', tv2, bv2, rfl, upd_same, w1, w2, mono_TR mono_T _ _ _ _ eN2 w3, mono_TI _ _ _ _ eN2 w4⟩⟩
theorem ok_moved {P : Program} {w : World} {K : PySem.W.Frag} {mg : Str → Option Value} {base : Heap} {CT CS CB : Addr} {f : Addr} {fd : FuncData} (F : Fun K "moved" "moved" s_moved f fd) (T : Tx K mg CT CS CB)  :
    FnOk P w K mg base CX0 1 f fd P_moved (sp_moved K) := by
  refine F.ok sc_moved (fun vs H Q E h => ?_) (fun cdv A outer s H vs Q E hr h => ?_)
  · obtain ⟨B, rv, L, s', rfl, _⟩ := h
    rfl
  · obtain ⟨B, rv, L, s', rfl, e, hL, hlen, q⟩ := h
    refine ⟨_, (pss_one (ps_ret (pe_lc (own := [("time", 2), ("kind", 3)])  rfl sc_moved.nd  (pi_list (pv 0)) (blkOk_by (N := N_moved) (sc := defScope s_moved) (by decide +kernel)) (fun _ _ _ _ _ => pg_tupK K (n := 2) rfl (pgs_cons (pg_name (i := 2) sc_moved.nd rfl (Or.inl rfl)) (pgs_cons (pg_name (i := 3) sc_moved.nd rfl (Or.inl rfl)) pgs_nil))) (fun _ _ _ _ _ => pts_nil) (fun _ _ _ _ _ => (pe_tup (pa_cons (pe_op op_add (pv 2) (pv 1)) (pa_cons (pv 3) pa_nil))))))), ?_⟩
    obtain ⟨ra, rvs, rfl, hra, hrr⟩ := hL
    walk_at "go"
    refine ⟨⟨_, ex_l e hra⟩, ?_⟩
    refine lc_LR (mono_Rel (K := K)) (Sg.refl e) hra hrr (fun _ => true) (fun r => (r.1 + s', r.2)) (by omega) ?_ ?_
    · intro x v N' H' hx ⟨xa, hv, hxa⟩ eN G
      subst hv
      intro Nn Y hn' hy
      have hxa' := ex_t (eN.trans G.eH) hxa
      refine ⟨xa, _, rfl, hxa', rfl, _, _, rfl, _, _, rfl, rfl, rfl, ?_⟩
      walk_at "go"
      exact ⟨sz2, fun p hp => hy rfl _ _ _ ((Sg.refl G.eH).new hp) ⟨p, rfl, SqT.of upd_same⟩⟩
    · intro v N' H' eN G r
      rw [filtT] at r
      exact q.go G r
theorem ok_most_waiting {P : Program} {w : World} {K : PySem.W.Frag} {mg : Str → Option Value} {base : Heap} {CT CS CB : Addr} {f : Addr} {fd : FuncData} (F : Fun K "most_waiting" "most_waiting" s_most_waiting f fd) (T : Tx K mg CT CS CB) {C fI cc cda : Addr} (U : UnTxt P K mg C fI cc cda) {f_Backlog_init : Addr} {fd_Backlog_init : FuncData} {f_rounds : Addr} {fd_rounds : FuncData} {f_eager : Addr} {fd_eager : FuncData} {f_system_demands : Addr} {fd_system_demands : FuncData} {f_supply : Addr} {fd_supply : FuncData} {f_moved : Addr} {fd_moved : FuncData} {f_heaviest : Addr} {fd_heaviest : FuncData} {f_eager_task : Addr} {fd_eager_task : FuncData} (C_Backlog_init : CalI P w K mg base CB 1 P_Backlog_init (sp_Backlog_init CB) f_Backlog_init fd_Backlog_init) (C_rounds : CalK P w K mg base "rounds" 6 1 ["horizon"] P_rounds (sp_rounds K CT CS) f_rounds fd_rounds) (C_eager : CalF P w K mg base "eager" 6 P_eager (sp_eager K CT CS) f_eager fd_eager) (C_system_demands : CalF P w K mg base "system_demands" 6 P_system_demands (sp_system_demands K CT CS) f_system_demands fd_system_demands) (C_supply : CalF P w K mg base "supply" 2 P_supply (sp_supply K) f_supply fd_supply) (C_moved : CalF P w K mg base "moved" 1 P_moved (sp_moved K) f_moved fd_moved) (C_heaviest : CalF P w K mg base "heaviest" 5 P_heaviest (sp_heaviest K CT) f_heaviest fd_heaviest) (C_eager_task : CalF P w K mg base "eager_task" 5 P_eager_task (sp_eager_task K CT) f_eager_task fd_eager_task) :
    FnOk P w K mg base (L2.CX P w) 8 f fd P_most_waiting (sp_most_waiting K CT CS CB C) := by
  refine F.okX sc_most_waiting (fun vs H Q E h => ?_) (fun cdv A outer s H vs Q E hr h => ?_)
  · obtain ⟨B, sv, Ts, tb, h, rfl, _⟩ := h
    rfl
  · obtain ⟨B, sv, Ts, tb, h, rfl, e, hS, hok, hne, hh, hE, q⟩ := h
    refine ⟨_, (pss_cons (ps_set (i := 2) sc_most_waiting.nd rfl (Or.inl rfl) (pe_callB call_len_seq rfl T.len PySem.boot_len (pa_cons (pe_fld (pv 0) rfl) pa_nil)))
    (pss_cons (ps_if (pt_cmpR op_eq (pv 2) pe_int (nomark _)) (pss_one (ps_ret (pe_make C_Backlog_init.mki C_Backlog_init.ok (hr.mono (by decide)) rfl T.gBacklog C_Backlog_init.b .nil pass0 (pa_cons pe_int (pa_cons pe_int (pa_cons pe_int (pa_cons (pe_lst pa_nil) pa_nil))))))) pss_nil)
    (pss_cons (ps_if (pt_cmpR op_isN (pe_callN C_rounds.ok (hr.mono (by decide)) rfl C_rounds.g C_rounds.kp C_rounds.kb pass0 (pa_cons (pe_call C_eager.ok (hr.mono (by decide)) rfl C_eager.g C_eager.kp C_eager.b .nil pass0 (pa_cons (pv 0) pa_nil)) pa_nil) (pk_cons (pv 1) pk_nil)) pe_non (nomark _)) (pss_one (ps_raiseUn (k := 0) rfl U (hr.mono (by decide)) (takes_of rfl rfl rfl rfl) (pa_cons (pv 1) pa_nil))) pss_nil)
    (PSs.nox (pss_cons (ps_set (i := 3) sc_most_waiting.nd rfl (Or.inl rfl) pe_int)
    (pss_cons (ps_set (i := 4) sc_most_waiting.nd rfl (Or.inr rfl) pe_int)
    (pss_cons (ps_set (i := 5) sc_most_waiting.nd rfl (Or.inr rfl) pe_int)
    (pss_cons (ps_set (i := 6) sc_most_waiting.nd rfl (Or.inl rfl) (pe_call C_system_demands.ok (hr.mono (by decide)) rfl C_system_demands.g C_system_demands.kp C_system_demands.b .nil pass0 (pa_cons (pe_call C_eager.ok (hr.mono (by decide)) rfl C_eager.g C_eager.kp C_eager.b .nil pass0 (pa_cons (pv 0) pa_nil)) (pa_cons (pv 1) pa_nil))))
    (pss_cons (ps_for PassesOwn.never rfl (pi_range2 rfl T.range (pa_cons pe_int (pa_cons (pe_op op_add (pv 1) pe_int) pa_nil))) (pg_name (i := 7) sc_most_waiting.nd rfl (Or.inl rfl)) (pss_one (ps_for PassesOwn.never rfl (pi_range2 rfl T.range (pa_cons pe_int (pa_cons (pe_op op_add (pv 7) pe_int) pa_nil))) (pg_name (i := 9) sc_most_waiting.nd rfl (Or.inl rfl)) (pss_cons (ps_set (i := 10) sc_most_waiting.nd rfl (Or.inl rfl) (pe_op op_sub (pe_ix ix_list (pv 6) (pv 9) (fun _ _ => rfl)) (pe_call C_supply.ok (hr.mono (by decide)) rfl C_supply.g C_supply.kp C_supply.b .nil pass0 (pa_cons (pe_fld (pv 0) rfl) (pa_cons (pe_op op_sub (pv 7) (pv 9)) (pa_cons (pv 7) pa_nil))))))
    (pss_one (ps_if (pt_cmpR op_gt (pv 10) (pv 3) (nomark _)) (pss_cons (ps_set (i := 3) sc_most_waiting.nd rfl (Or.inl rfl) (pv 10))
    (pss_cons (ps_set (i := 4) sc_most_waiting.nd rfl (Or.inr rfl) (pv 7))
    (pss_one (ps_set (i := 5) sc_most_waiting.nd rfl (Or.inr rfl) (pe_op op_sub (pv 7) (pv 9)))))) pss_nil))))))
    (pss_cons (ps_if (pt_cmpR op_eq (pv 3) pe_int (nomark _)) (pss_one (ps_ret (pe_make C_Backlog_init.mki C_Backlog_init.ok (hr.mono (by decide)) rfl T.gBacklog C_Backlog_init.b .nil pass0 (pa_cons pe_int (pa_cons pe_int (pa_cons pe_int (pa_cons (pe_lc (own := [("task", 11)])  rfl sc_most_waiting.nd  (pi_tup (pe_fld (pv 0) rfl)) (blkOk_by (N := N_most_waiting) (sc := defScope s_most_waiting) (by decide +kernel)) (fun _ _ _ _ _ => pg_name (i := 11) sc_most_waiting.nd rfl (Or.inl rfl)) (fun _ _ _ _ _ => pts_nil) (fun _ _ _ _ _ => (pe_lst pa_nil))) pa_nil))))))) pss_nil)
    (pss_cons (ps_setLc (i := 8) (own := [("task", 11)])  rfl sc_most_waiting.nd rfl rfl (sw_true rfl rfl rfl (by decide +kernel)) (pi_tup (pe_fld (pv 0) rfl)) (blkOk_by (N := N_most_waiting) (sc := defScope s_most_waiting) (by decide +kernel)) (fun _ _ _ _ _ => pg_name (i := 11) sc_most_waiting.nd rfl (Or.inl rfl)) (fun _ _ _ _ _ => pts_nil) (fun _ _ _ _ _ => (pe_call C_moved.ok (hr.mono (by decide)) rfl C_moved.g C_moved.kp C_moved.b .nil pass0 (pa_cons (pe_call C_heaviest.ok (hr.mono (by decide)) rfl C_heaviest.g C_heaviest.kp C_heaviest.b .nil pass0 (pa_cons (pe_call C_eager_task.ok (hr.mono (by decide)) rfl C_eager_task.g C_eager_task.kp C_eager_task.b .nil pass0 (pa_cons (pv 11) pa_nil)) (pa_cons (pe_op op_sub (pv 4) (pv 5)) pa_nil))) (pa_cons (pv 5) pa_nil)))))
    (pss_one (ps_ret (pe_make C_Backlog_init.mki C_Backlog_init.ok (hr.mono (by decide)) rfl T.gBacklog C_Backlog_init.b .nil pass0 (pa_cons (pv 3) (pa_cons (pv 4) (pa_cons (pv 5) (pa_cons (pv 8) pa_nil)))))))))))))))))), ?_⟩
    obtain ⟨sp, sdx, sfs, tv, bv, rfl, hsp, htv, hbv, ⟨ta, tvs, rfl, hta, htr⟩, ⟨ba, rfl, hba⟩⟩ := id hS
    have hsp' := e _ _ hsp
    dsimp only at htr hba
    have htl := htr.len
    have htl0 : Ts.length ≠ 0 := fun h => hne (List.eq_nil_of_length_eq_zero h)
    have hEne : Ts.map eagT ≠ [] := fun h => hne (List.map_eq_nil_iff.mp h)
    refine ⟨_, rfl, sp, CS, sdx, sfs, _, rfl, hsp', T.clSystem, T.naSystem_tasks, htv, ta, tvs, rfl, .inr (ex_t e hta), ?_⟩
    refine ⟨_, rfl, rfl, _, rfl, ?_⟩
    refine ited (fun c => ?_) (fun c => ?_)
    · injection c with c
      omega
    refine ⟨_, rfl, B, _, Ts, tb, rfl, e, hS, hok, fun v1 N1 H1 G1 r1 => ?_⟩
    walk_at "go"
    refine ⟨N1, v1, Ts.map eagT, tb, h, rfl, G1.eH, r1, hok.eag, sys_one Ts, hEne, hh, fun v2 hv2 H2 e2 => ?_⟩
    refine ⟨rfl, _, rfl, ?_⟩
    have e02 := G1.e0.trans e2
    refine ited (fun c => ?_) (fun c => ?_)
    · exact ⟨_, rfl, _, rfl, fun d hd => hE H2 d e02 hd⟩
    have hCR : ∃ qq, CR (Ts.map eagT) tb h qq := by
      rcases hv2 with h | ⟨qq, _, h⟩
      · exact absurd h c
      · exact ⟨qq, h⟩
    have eB2 := e.trans e02
    refine ⟨_, rfl, B, _, Ts, tb, rfl, eB2, hS, hok, fun v3 N3 H3 G3 r3 => ?_⟩
    refine ⟨_, rfl, N3, v3, Ts.map eagT, tb, h, rfl, G3.eH, r3, hok.eag, hh, fun v4 N4 H4 G4 r4 => ?_⟩
    obtain ⟨da, rfl, hda⟩ := r4
    have hda4 := ex_l G4.eH hda
    have e04 : Ex H H4 := e02.trans (G3.e0.trans G4.e0)
    have eB4 := e.trans e04
    walk_at "go"
    refine ⟨_, _, rfl, ⟨by decide, by decide, by omega, by omega⟩, ?_⟩
    rw [show ((h : Int) + 1 - 1).toNat = h by omega]
    let ex : Nat → Nat → Int := fun s e => NLM.total (Ts.map eagT) (e - s) - (NLM.sof tb e - NLM.sof tb s)
    refine for_range (fun i σ' H' => Ex H4 H' ∧ ∃ (M : Int) (it st : Nat), 0 ≤ M ∧ (∀ s e, s < e → e ≤ i → ex s e ≤ M) ∧ ((M = 0 ∧ it = 0 ∧ st = 0) ∨ (0 < M ∧ st < it ∧ it ≤ h ∧ ex st it = M)) ∧ ∃ iz sz : Int, iz = (it : Int) ∧ sz = (st : Int) ∧
      ∃ u1 u2 u3 u4 u5, σ' = [some (.ref sp), some (.int (h : Int)), some (.int (tvs.length : Int)), some (.int M), some (.int iz), some (.int sz), some (.ref da), u1, u2, u3, u4, u5])
      ⟨Ex.refl _, 0, 0, 0, Int.le_refl _, (fun s e h1 h2 => absurd (Nat.lt_of_lt_of_le h1 h2) (Nat.not_lt_zero _)), .inl ⟨rfl, rfl, rfl⟩, 0, 0, rfl, rfl, _, _, _, _, _, rfl⟩ ?_ ?_
    · rintro i σ' H' hi ⟨e5, M0, it0, st0, hM0, hall0, hcase0, iz0, sz0', hiz0, hsz0, u1, u2, u3, u4, u5, rfl⟩
      walk_at "go"
      refine ⟨_, _, rfl, ⟨by decide, by decide, by omega, by omega⟩, ?_⟩
      rw [show ((1 : Int) + (i : Int) + 1 - 1).toNat = i + 1 by omega]
      refine for_range (fun j σ2 H2 => Ex H4 H2 ∧ ∃ (M : Int) (it st : Nat), 0 ≤ M ∧ (∀ s e, s < e → e ≤ i → ex s e ≤ M) ∧ (∀ len, 1 ≤ len → len ≤ j → ex (i + 1 - len) (i + 1) ≤ M) ∧ ((M = 0 ∧ it = 0 ∧ st = 0) ∨ (0 < M ∧ st < it ∧ it ≤ h ∧ ex st it = M)) ∧ ∃ iz sz : Int, iz = (it : Int) ∧ sz = (st : Int) ∧
        ∃ u3 u4, σ2 = [some (.ref sp), some (.int (h : Int)), some (.int (tvs.length : Int)), some (.int M), some (.int iz), some (.int sz), some (.ref da), some (.int (1 + (i : Int))), u2, u3, u4, u5])
        ⟨e5, M0, it0, st0, hM0, hall0, (fun len h1 h2 => absurd (Nat.le_trans h1 h2) (by decide)), hcase0, iz0, sz0', hiz0, hsz0, _, _, rfl⟩ ?_ ?_
      · rintro j σ2 H6 hj ⟨e6, M, it, st, hM, hall, hlens, hcase, iz, sz, hiz, hsz, w3, w4, rfl⟩
        have eB6 := eB4.trans e6
        have hget : (((List.range (h + 1)).map fun i => NLM.total (Ts.map eagT) i).map V.int)[j + 1]? = some (.int (NLM.total (Ts.map eagT) (j + 1))) := by
          rw [List.getElem?_map, List.getElem?_map, List.getElem?_range (by omega)] <;> rfl
        walk_at "go"
        refine ⟨da, _, _, _, rfl, rfl, ex_l e6 hda4, atI_of (by omega) hget, ?_⟩
        refine ⟨_, rfl, sp, CS, sdx, sfs, _, rfl, eB6 _ _ hsp, T.clSystem, T.naSystem_table, hbv, ?_⟩
        walk_at "go"
        refine ⟨B, .ref ba, tb, i - j, i + 1, ?_, eB6, ⟨ba, rfl, hba⟩, hok.b, by omega, fun H7 e7 => ?_⟩
        · show [V.ref ba, V.int (1 + (i : Int) - (1 + (j : Int))), V.int (1 + (i : Int))] = _
          rw [show 1 + (i : Int) - (1 + (j : Int)) = ((i - j : Nat) : Int) by omega, show 1 + (i : Int) = ((i + 1 : Nat) : Int) by omega]
        walk_at "go"
        have hex : ex (i - j) (i + 1) = NLM.total (Ts.map eagT) (j + 1) - (NLM.sof tb (i + 1) - NLM.sof tb (i - j)) := by
          show NLM.total (Ts.map eagT) (i + 1 - (i - j)) - _ = _
          rw [show i + 1 - (i - j) = j + 1 by omega]
        dsimp only
        rw [← hex]
        refine ited (fun c => ?_) (fun c => ?_)
        · walk_at "go"
          refine ⟨e6.trans e7, ex (i - j) (i + 1), i + 1, i - j, by omega, fun s e h1 h2 => by have := hall s e h1 h2; omega, fun len h1 h2 => ?_, .inr ⟨by omega, by omega, by omega, rfl⟩, 1 + (i : Int), 1 + (i : Int) - (1 + (j : Int)), by omega, by omega, _, _, rfl⟩
          rcases Nat.lt_or_eq_of_le h2 with h | h
          · have := hlens len h1 (by omega)
            omega
          · subst h
            rw [show i + 1 - (j + 1) = i - j by omega]
            exact Int.le_refl _
        · refine ⟨e6.trans e7, M, it, st, hM, hall, fun len h1 h2 => ?_, hcase, iz, sz, hiz, hsz, _, _, rfl⟩
          rcases Nat.lt_or_eq_of_le h2 with h | h
          · exact hlens len h1 (by omega)
          · subst h
            rw [show i + 1 - (j + 1) = i - j by omega]
            omega
      · rintro σ2 H6 ⟨e6, M, it, st, hM, hall, hlens, hcase, iz, sz, hiz, hsz, w3, w4, rfl⟩
        refine ⟨e6, M, it, st, hM, fun s e h1 h2 => ?_, hcase, iz, sz, hiz, hsz, _, _, _, _, _, rfl⟩
        rcases Nat.lt_or_eq_of_le h2 with h | h
        · exact hall s e h1 (by omega)
        · subst h
          have := hlens (i + 1 - s) (by omega) (by omega)
          rw [show i + 1 - (i + 1 - s) = s by omega] at this
          exact this
    · rintro σ' H5 ⟨e5, M, it, st, hM, hall, hcase, iz, sz, rfl, rfl, u1, u2, u3, u4, u5, rfl⟩
      have e05 := e04.trans e5
      have G5 : Sg B H B H5 := (Sg.refl e).ext e05
      have eB5 := e.trans e05
      refine ⟨_, rfl, rfl, _, rfl, ?_⟩
      refine ited (fun c => ?_) (fun c => ?_)
      · injection c with c
        subst c
        dsimp only [tRet, tMake, tCons, tC]
        refine tlc_TRs (S := LR K (rRel K)) (mono_LR mono_Rel) (fun R r => ⟨_, rfl, sp, CS, sdx, sfs, _, rfl, eB5 _ _ hsp, T.clSystem, T.naSystem_tasks, htv, ta, rfl, ⟨_, ex_t eB5 hta⟩, r⟩) G5 hta htr (fun _ => true) (fun _ => []) (Nat.le_trans hok.le (by decide)) ?_ ?_
        · intro x v N' H' hx hT eN G Nn Y hn hy
          refine ⟨rfl, sz0, fun l hl => ?_⟩
          exact hy rfl _ _ _ ((Sg.refl G.eH).new hl) ⟨l, [], rfl, SqL.of upd_same, .nil⟩
        · rintro la N6 H6 eN6 G6 ⟨lvs, hla, hLL⟩
          rw [filtT] at hLL
          refine fun x dx2 hx hdx hne2 => ?_
          refine ⟨N6, x, dx2, 0, 0, 0, .ref la, rfl, G6.eH.trans (ex_made hx hdx hne2), (G6.free hx).1, upd_same, ?_⟩
          rintro N H' dx' fs' eN eH hkp hnw hNp hp2 ⟨w1, w2, w3, w4⟩
          have eN2 := ex_upd (o := .ins CB dx' fs') hNp
          refine ⟨rfl, q 0 0 0 _ ⟨hCR, Nat.zero_le _, Int.le_refl _, ⟨List.length_map _, fun L hL => (by obtain ⟨_, _, rfl⟩ := List.mem_map.mp hL; exact Nat.zero_le _)⟩, hall, .inl ⟨rfl, rfl, rfl, fun L hL => ?_⟩⟩ _ _ _ (G6.made hx hdx hne2 eN eH hkp hnw hNp hp2) ⟨x, dx', fs', _, rfl, upd_same, w1, w2, w3, w4, la, lvs, rfl, (eN.trans eN2) _ _ hla, Pr.mono (mono_LR mono_Rel) (eN.trans eN2) hLL⟩⟩
          obtain ⟨_, _, rfl⟩ := List.mem_map.mp hL
          rfl
      · have hcase' : 0 < M ∧ st < it ∧ it ≤ h ∧ ex st it = M := by
          rcases hcase with ⟨h, _⟩ | h
          · exact absurd (by rw [h]) c
          · exact h
        obtain ⟨k1, k2, k3, k4⟩ := hcase'
        dsimp only [tSeq, tAsg, tNext, gName]
        refine tlc_TRs (S := rHev K (it - st) (st : Int)) mono_Hev (fun R r => ⟨_, rfl, sp, CS, sdx, sfs, _, rfl, eB5 _ _ hsp, T.clSystem, T.naSystem_tasks, htv, ta, rfl, ⟨_, ex_t eB5 hta⟩, r⟩) G5 hta htr (fun _ => true) (fun T => T) (Nat.le_trans hok.le (by decide)) ?_ ?_
        · intro x v N' H' hx hT eN G Nn Y hn hy
          refine ⟨rfl, _, rfl, N', v, x, rfl, G.eH, mono_T _ _ _ _ eN hT, hok.t x hx, fun v6 N6 H6 G6 r6 => ?_⟩
          walk_at "go"
          refine ⟨N6, v6, eagT x, it - st, ?_, G6.eH, r6, (hok.t x hx).eag, eag_one x, by omega, by omega, fun L hL hLl v7 N7 H7 G7 r7 => ?_⟩
          · show [v6, V.int ((it : Int) - (st : Int))] = _
            rw [show (it : Int) - (st : Int) = ((it - st : Nat) : Int) by omega]
          walk_at "go"
          refine ⟨N7, v7, L, (st : Int), rfl, G7.eH, r7, hLl, fun v8 N8 H8 G8 r8 => ?_⟩
          exact hy rfl _ _ _ ((G6.trans G7).trans G8) ⟨L, hL, hLl, r8⟩
        · rintro la N6 H6 eN6 G6 ⟨lvs, hla, hlr⟩
          rw [filtT, List.map_id'] at hlr
          obtain ⟨LL, hLL, hLLl, hLLe⟩ := pr_hev hlr
          walk_at "go"
          refine fun x dx2 hx hdx hne2 => ?_
          refine ⟨N6, x, dx2, M, (it : Int), (st : Int), .ref la, rfl, G6.eH.trans (ex_made hx hdx hne2), (G6.free hx).1, upd_same, ?_⟩
          rintro N H' dx' fs' eN eH hkp hnw hNp hp2 ⟨w1, w2, w3, w4⟩
          have eN2 := ex_upd (o := .ins CB dx' fs') hNp
          exact ⟨rfl, q M it st LL ⟨hCR, k3, hM, hLLl, hall, .inr ⟨k1, k2, k4, hLLe⟩⟩ _ _ _ (G6.made hx hdx hne2 eN eH hkp hnw hNp hp2) ⟨x, dx', fs', _, rfl, upd_same, w1, w2, w3, w4, la, lvs, rfl, (eN.trans eN2) _ _ hla, Pr.mono (mono_LR mono_Rel) (eN.trans eN2) hLL⟩⟩
theorem ok_law_row {P : Program} {w : World} {K : PySem.W.Frag} {mg : Str → Option Value} {base : Heap} {CT CS CB : Addr} {f : Addr} {fd : FuncData} (F : Fun K "_law_row" "_law_row" s_law_row f fd) (T : Tx K mg CT CS CB)  :
    FnOk P w K mg base CX0 1 f fd P_law_row (sp_law_row K) := by
  refine F.ok sc_law_row (fun vs H Q E h => ?_) (fun cdv A outer s H vs Q E hr h => ?_)
  · obtain ⟨B, c, m, rfl, _⟩ := h
    rfl
  · obtain ⟨B, c, m, rfl, eB, hm, q⟩ := h
    refine ⟨_, (pss_cons (ps_set (i := 2) sc_law_row.nd rfl (Or.inl rfl) (pe_lst pa_nil))
    (pss_cons (ps_set (i := 3) sc_law_row.nd rfl (Or.inl rfl) (pe_callB call_abs rfl T.abs boot_abs (pa_cons (pv 0) pa_nil)))
    (pss_cons (ps_for PassesOwn.never rfl (pi_range1 rfl T.range (pa_cons (pv 1) pa_nil)) (pg_name (i := 4) sc_law_row.nd rfl (Or.inl rfl)) (pss_one (ps_if (pt_cmpR op_ge (pe_callB call_abs rfl T.abs boot_abs (pa_cons (pv 0) pa_nil)) (pe_op op_pow pe_int pe_int) (nomark _)) (pss_cons (ps_expr (pe_bm PySem.F.plainAttrs_list PySem.F.slot_list_append PySem.F.type_list_append mt_append (pv 2) (pa_cons (pe_op op_mod (pe_callTy call_int1 rfl T.int boot_int (pa_cons (pv 3) pa_nil)) pe_int) pa_nil)))
    (pss_one (ps_set (i := 3) sc_law_row.nd rfl (Or.inl rfl) (pe_op op_fdiv (pv 3) pe_int)))) (pss_cons (ps_set (i := 5) sc_law_row.nd rfl (Or.inl rfl) (pe_op op_mod (pe_op op_add (pe_op op_mul (pv 3) pe_int) (pe_op op_mul (pe_op op_add (pv 4) pe_int) pe_int)) pe_int))
    (pss_cons (ps_set (i := 5) sc_law_row.nd rfl (Or.inl rfl) (pe_op op_mod (pe_op op_add (pe_op op_mul (pv 5) pe_int) (pe_op op_mul pe_int (pe_op op_add (pv 4) pe_int))) pe_int))
    (pss_one (ps_expr (pe_bm PySem.F.plainAttrs_list PySem.F.slot_list_append PySem.F.type_list_append mt_append (pv 2) (pa_cons (pe_op op_mod (pe_callTy call_int1 rfl T.int boot_int (pa_cons (pv 5) pa_nil)) pe_int) pa_nil)))))))))
    (pss_one (ps_ret (pv 2)))))), ?_⟩
    refine ⟨sz0, fun l hl => ?_⟩
    walk_at "go"
    refine ⟨by omega, by omega, ?_⟩
    rw [Int.toNat_natCast]
    refine for_range (fun i σ' H' => Ex H H' ∧ ∃ xs : List Int, xs.length = i ∧ (∀ x ∈ xs, 0 ≤ x ∧ x < 1009) ∧ H' l = some (.lst (xs.map V.int)) ∧ ∃ r u w, σ' = [some (.int c), some (.int (m : Int)), some (.ref l), some (.int r), u, w]) ⟨Ex.new hl, [], rfl, fun _ h => (by cases h), upd_same, _, _, _, rfl⟩ ?_ ?_
    · rintro i σ' H' hi ⟨e1, xs, hxl, hxs, hHl, r, u, w, rfl⟩
      have hput : ∀ y : Int, Ex H (upd H' l (.lst (xs.map V.int ++ [.int (y % 1009)]))) ∧ (xs ++ [y % 1009]).length = i + 1 ∧ (∀ x ∈ xs ++ [y % 1009], 0 ≤ x ∧ x < 1009) ∧ (upd H' l (.lst (xs.map V.int ++ [.int (y % 1009)]))) l = some (.lst ((xs ++ [y % 1009]).map V.int)) := fun y => by
        refine ⟨fun b o hb => ?_, by rw [List.length_append, hxl]; rfl, fun x hx => ?_, ?_⟩
        · rw [upd_ne (ne_of_none hb hl)]
          exact e1 b o hb
        · rcases List.mem_append.mp hx with h | h
          · exact hxs x h
          · rw [List.mem_singleton.mp h]
            omega
        · rw [upd_same, List.map_append]
          rfl
      have hsz : (xs.map V.int).length < sizeLine := sz_lt (by rw [List.length_map]; omega)
      rw [show (0 : Int) + (i : Int) = (i : Int) from Int.zero_add _]
      walk_at "ga"
      refine ite2' (fun _ => ?_) (fun _ => ?_)
      · refine ⟨_, rfl, .inl ⟨rfl, _, SqL.of hHl⟩, ?_⟩
        walk_at "ga"
        refine ⟨l, _, _, rfl, rfl, hHl, hsz, ?_⟩
        walk_at "ga"
        obtain ⟨a1, a2, a3, a4⟩ := hput r
        exact ⟨a1, _, a2, a3, a4, _, _, _, rfl⟩
      · walk_at "ga"
        refine ⟨.inl ⟨rfl, _, SqL.of hHl⟩, ?_⟩
        walk_at "ga"
        refine ⟨l, _, _, rfl, rfl, hHl, hsz, ?_⟩
        obtain ⟨a1, a2, a3, a4⟩ := hput _
        exact ⟨a1, _, a2, a3, a4, _, _, _, rfl⟩
    · rintro σ' H' ⟨e1, xs, hxl, hxs, hHl, r, u, w, rfl⟩
      exact ⟨_, rfl, (q xs ⟨hxl, hxs⟩).go (((Sg.refl eB).ext e1).keep (Evl.fresh_back eB hl) hl hHl) ⟨l, rfl, SqL.of upd_same⟩⟩
theorem ok_law_numbers {P : Program} {w : World} {K : PySem.W.Frag} {mg : Str → Option Value} {base : Heap} {CT CS CB : Addr} {f : Addr} {fd : FuncData} (F : Fun K "_law_numbers" "_law_numbers" s_law_numbers f fd) (T : Tx K mg CT CS CB) {f_law_row : Addr} {fd_law_row : FuncData} (C_law_row : CalF P w K mg base "_law_row" 1 P_law_row (sp_law_row K) f_law_row fd_law_row) :
    FnOk P w K mg base CX0 2 f fd P_law_numbers (sp_law_numbers K) := by
  refine F.ok sc_law_numbers (fun vs H Q E h => ?_) (fun cdv A outer s H vs Q E hr h => ?_)
  · obtain ⟨B, sv, ns, m, rfl, _⟩ := h
    rfl
  · obtain ⟨B, sv, ns, m, rfl, e, ⟨a, rfl, ha⟩, hm, q⟩ := h
    refine ⟨_, (pss_cons (ps_set (i := 2) sc_law_numbers.nd rfl (Or.inl rfl) (pe_slice sl_list (pv 0) po_none (po_some pe_int)))
    (pss_cons (ps_set (i := 3) sc_law_numbers.nd rfl (Or.inl rfl) (pe_op op_add pe_int (pe_op op_fdiv (pv 1) (pe_callB (call_max2 rfl) rfl T.max boot_max (pa_cons pe_int (pa_cons (pe_callB call_len_seq rfl T.len PySem.boot_len (pa_cons (pv 2) pa_nil)) pa_nil))))))
    (pss_cons (ps_set (i := 4) sc_law_numbers.nd rfl (Or.inl rfl) (pe_lst pa_nil))
    (pss_cons (ps_for PassesOwn.never rfl (pi_list (pv 2)) (pg_name (i := 5) sc_law_numbers.nd rfl (Or.inl rfl)) (pss_one (ps_for PassesOwn.never rfl (pi_list (pe_call C_law_row.ok (hr.mono (by decide)) rfl C_law_row.g C_law_row.kp C_law_row.b .nil pass0 (pa_cons (pv 5) (pa_cons (pv 3) pa_nil)))) (pg_name (i := 6) sc_law_numbers.nd rfl (Or.inl rfl)) (pss_one (ps_expr (pe_bm PySem.F.plainAttrs_list PySem.F.slot_list_append PySem.F.type_list_append mt_append (pv 4) (pa_cons (pv 6) pa_nil)))))))
    (pss_cons (ps_while PassesOwn.never (pt_cmpR op_lt (pe_callB call_len_seq rfl T.len PySem.boot_len (pa_cons (pv 4) pa_nil)) (pv 1) (nomark _)) (pss_one (ps_expr (pe_bm PySem.F.plainAttrs_list PySem.F.slot_list_append PySem.F.type_list_append mt_append (pv 4) (pa_cons pe_int pa_nil)))))
    (pss_one (ps_ret (pe_slice sl_list (pv 4) po_none (po_some (pv 1)))))))))), ?_⟩
    refine ⟨_, rfl, _, rfl, a, _, rfl, ex_l e ha, fun p hp => ?_⟩
    rw [show (some (63 : Int)) = some ((63 : Nat) : Int) from rfl, cut_to, ← List.map_take]
    have G0 := (Sg.refl e).new (o := .lst ((ns.take 63).map V.int)) hp
    have hpN : SqL K (upd B p (.lst ((ns.take 63).map V.int))) p ((ns.take 63).map V.int) := SqL.of upd_same
    have hL : (ns.take 63).length ≤ 63 := by rw [List.length_take]; omega
    generalize ns.take 63 = cs at *
    refine ⟨_, rfl, _, rfl, p, _, rfl, .inl (ex_l G0.eH hpN), ?_⟩
    rw [List.length_map]
    refine ⟨_, _, rfl, ?_⟩
    obtain ⟨j, hj, hj1, hj2⟩ : ∃ j : Nat, (if (cs.length : Int) > 1 then (cs.length : Int) else 1) = (j : Int) ∧ 1 ≤ j ∧ (cs.length ≤ j) ∧ j ≤ 63 := by
      by_cases h : (cs.length : Int) > 1
      · exact ⟨cs.length, by rw [if_pos h], by omega, by omega, by omega⟩
      · exact ⟨1, by rw [if_neg h]; rfl, by omega, by omega, by omega⟩
    rw [hj]
    refine ⟨_, _, rfl, rfl, ⟨by omega, by omega⟩, ?_⟩
    walk_at "go"
    have hdiv : (1 : Int) + (m : Int) / (j : Int) = ((1 + m / j : Nat) : Int) := by rw [Int.natCast_add, Int.natCast_ediv]; rfl
    have hdl : m / j ≤ m := Nat.div_le_self _ _
    have hdm : m ≤ (1 + m / j) * j := by
      have h1 := Nat.div_add_mod m j
      have h2 := Nat.mod_lt m (show j > 0 by omega)
      rw [Nat.add_mul, Nat.one_mul, Nat.mul_comm (m / j)]
      omega
    dsimp only
    rw [hdiv]
    generalize 1 + m / j = eh at *
    refine ⟨sz0, fun l hl => ?_⟩
    obtain ⟨n1, n2⟩ := G0.free hl
    have G1 := G0.mut (o := .lst []) n1 n2
    refine ⟨_, rfl, p, rfl, ⟨_, ex_l G1.eH hpN⟩, ?_⟩
    refine for_LR (R := rI) hpN (Pr.of_ints cs) (fun i σ' H' => ∃ N', Ex (upd B p (.lst (cs.map V.int))) N' ∧ Sg B H N' H' ∧ N' l = none ∧ ∃ xs : List Int, xs.length ≤ i * 250 ∧ (∀ x ∈ xs, 0 ≤ x ∧ x < 1009) ∧ H' l = some (.lst (xs.map V.int)) ∧ ∃ u w, σ' = [some (.ref a), some (.int (m : Int)), some (.ref p), some (.int (eh : Int)), some (.ref l), u, w])
      ⟨_, Ex.refl _, G1, n1, [], by simp, fun _ h => (by cases h), upd_same, _, _, rfl⟩ (fun i σ' H' ⟨N', eN, G, _⟩ => eN.trans G.eH) ?_ ?_
    · rintro i x v σ' H' hx hv ⟨N', eN, G, hNl, xs, hxl, hxs, hHl, u, w, rfl⟩
      cases hv
      have hi : i < cs.length := (List.getElem?_eq_some_iff.mp hx).1
      walk_at "go"
      refine ⟨N', x, eh, rfl, G.eH, by omega, fun ys hys v2 N2 H2 G2 r2 => ?_⟩
      obtain ⟨b, rfl, hb⟩ := r2
      obtain ⟨hN2l, hH2l⟩ := G2.away hNl hHl
      have G3 := G.trans G2
      refine ⟨b, rfl, ⟨_, ex_l G2.eH hb⟩, ?_⟩
      have hmul : (i + 1) * 250 = i * 250 + 250 := by rw [Nat.add_mul, Nat.one_mul]
      have hib : i * 250 ≤ 63 * 250 := Nat.mul_le_mul_right _ (by omega)
      refine for_LR (R := rI) (N := N2) hb (Pr.of_ints ys) (fun k σ2 H3 => Sg B H N2 H3 ∧ H3 l = some (.lst ((xs ++ ys.take k).map V.int)) ∧ ∃ u, σ2 = [some (.ref a), some (.int (m : Int)), some (.ref p), some (.int (eh : Int)), some (.ref l), some (.int x), u])
        ⟨G3, ?_, w, rfl⟩ (fun k σ2 H3 ⟨G5, _⟩ => G5.eH) ?_ ?_
      · rw [List.take_zero, List.append_nil]; exact hH2l
      · rintro k y v σ2 H3 hy hv ⟨G5, hl3, u, rfl⟩
        cases hv
        have hk : k < ys.length := (List.getElem?_eq_some_iff.mp hy).1
        have hyl := hys.1
        refine ⟨_, rfl, .inl ⟨rfl, _, SqL.of hl3⟩, _, rfl, l, _, _, rfl, rfl, hl3, sz_lt (by rw [List.length_map, List.length_append, List.length_take]; omega), ?_⟩
        refine ⟨G5.mut hN2l n2, ?_, _, rfl⟩
        rw [upd_same, take_succ_get hy, ← List.append_assoc, List.map_append (l₁ := xs ++ List.take k ys)]
        rfl
      · rintro σ2 H3 ⟨G5, hl3, u, rfl⟩
        rw [List.take_length] at hl3
        have hyl := hys.1
        refine ⟨N2, eN.trans G2.eN, G5, hN2l, xs ++ ys, by rw [List.length_append]; omega, fun z hz => ?_, hl3, _, _, rfl⟩
        rcases List.mem_append.mp hz with h | h
        · exact hxs z h
        · exact hys.2 z h
    · rintro σ' H' ⟨N', eN, G, hNl, xs, hxl, hxs, hHl, u, w, rfl⟩
      have hib : cs.length * 250 ≤ 63 * 250 := Nat.mul_le_mul_right _ hL
      refine ⟨fun mm σ2 H2 => ∃ zs : List Int, mm = m - zs.length ∧ Sg B H N' H2 ∧ zs.length ≤ 63 * 250 + 200 ∧ (∀ x ∈ zs, 0 ≤ x ∧ x < 1009) ∧ H2 l = some (.lst (zs.map V.int)) ∧ σ2 = [some (.ref a), some (.int (m : Int)), some (.ref p), some (.int (eh : Int)), some (.ref l), u, w],
        ⟨_, xs, rfl, G, by omega, hxs, hHl, rfl⟩, ?_⟩
      rintro mm σ2 H2 ⟨zs, rfl, G2, hzl, hzs, hl2, rfl⟩
      refine ⟨_, rfl, l, _, rfl, .inl (SqL.of hl2), ?_⟩
      rw [List.length_map]
      walk_at "go"
      refine ited (fun c => ?_) (fun c => ?_)
      · refine ⟨fun σ3 H3 => ∃ m', m' < m - zs.length ∧ ∃ zs : List Int, m' = m - zs.length ∧ Sg B H N' H3 ∧ zs.length ≤ 63 * 250 + 200 ∧ (∀ x ∈ zs, 0 ≤ x ∧ x < 1009) ∧ H3 l = some (.lst (zs.map V.int)) ∧ σ3 = [some (.ref a), some (.int (m : Int)), some (.ref p), some (.int (eh : Int)), some (.ref l), u, w], fun σ3 H3 h => h, ?_⟩
        refine ⟨_, rfl, .inl ⟨rfl, _, SqL.of hl2⟩, l, _, _, rfl, rfl, hl2, sz_lt (by rw [List.length_map]; omega), ?_⟩
        refine ⟨m - (zs.length + 1), by omega, zs ++ [0], by rw [List.length_append]; rfl, G2.mut hNl n2, by rw [List.length_append, List.length_singleton]; omega, fun z hz => ?_, ?_, rfl⟩
        · rcases List.mem_append.mp hz with h | h
          · exact hzs z h
          · rw [List.mem_singleton.mp h]
            exact ⟨by decide, by decide⟩
        · rw [upd_same, List.map_append]
          rfl
      · refine ⟨_, rfl, _, rfl, _, rfl, l, _, rfl, SqL.of hl2, fun p2 hp2 => ?_⟩
        rw [cut_to, ← List.map_take]
        refine (q (zs.take m) ⟨by rw [List.length_take]; omega, fun z hz => hzs z (List.mem_of_mem_take hz)⟩).go (G2.new hp2) ⟨p2, rfl, SqL.of upd_same⟩
theorem ok_law_name {P : Program} {w : World} {K : PySem.W.Frag} {mg : Str → Option Value} {base : Heap} {CT CS CB : Addr} {f : Addr} {fd : FuncData} (F : Fun K "_law_name" "_law_name" s_law_name f fd) (T : Tx K mg CT CS CB)  :
    FnOk P w K mg base CX0 1 f fd P_law_name sp_law_name := by
  refine F.ok sc_law_name (fun vs H Q E h => ?_) (fun cdv A outer s H vs Q E hr h => ?_)
  · obtain ⟨n, k, rfl, _⟩ := h
    rfl
  · obtain ⟨n, k, rfl, h0, h1, hk, q⟩ := h
    refine ⟨_, (pss_cons (ps_set (i := 2) sc_law_name.nd rfl (Or.inl rfl) (pe_op op_mulS (pe_ix ix_str pe_str (pe_op op_mod (pe_callTy call_int1 rfl T.int boot_int (pa_cons (pv 0) pa_nil)) pe_int) (fun _ _ => rfl)) (pe_op op_mod (pe_op op_fdiv (pv 0) pe_int) pe_int)))
    (pss_cons (ps_if (pt_cmpR op_eq (pe_op op_mod (pe_op op_fdiv (pv 0) pe_int) pe_int) pe_int (nomark _)) (pss_one (ps_ret (pe_op op_add_str (pv 2) (pe_callTy call_str_int rfl T.str boot_str (pa_cons (pv 1) pa_nil))))) pss_nil)
    (pss_one (ps_ret (pe_op op_add_str (pe_callTy call_str_int rfl T.str boot_str (pa_cons (pv 1) pa_nil)) (pv 2)))))), ?_⟩
    have hkx' : ∀ j : Nat, n % 6 = (j : Int) → j < 6 → atI kxz.cps.toList (n % 6) = some (kxz.cps.toList.getD (n % 6).toNat 0) := fun j e hj => by
      rw [e, Int.toNat_natCast]
      exact atI_nat (kxz_at ⟨j, hj⟩)
    have hkx := hkx' (n % 6).toNat (by omega) (by omega)
    have hml := mul_len ⟨(n % 6).toNat, by omega⟩ ⟨(n / 6 % 3).toNat, by omega⟩
    dsimp only at hml
    rw [Int.toNat_of_nonneg (by omega : 0 ≤ n / 6 % 3)] at hml
    have hnl := num_len hk
    have hlog : k.natAbs.log2 < 1920 := by rcases hk with rfl | rfl <;> decide
    walk_at "ga"
    refine ⟨kxz, _, _, rfl, rfl, sz_of (by decide +kernel), hkx, ?_⟩
    walk_at "ga"
    refine ⟨by omega, by omega, by show (1 : Nat) ≤ 1000; decide, ?_⟩
    walk_at "ga"
    refine ited (fun c => ?_) (fun c => ?_)
    · injection c with c
      walk_at "ga"
      refine ⟨hlog, ?_⟩
      walk_at "ga"
      refine ⟨sz_of (by omega), ?_⟩
      rw [nameOf, decide_eq_true c] at q
      exact q.go (Ex.refl _)
    · have c' : ¬ n / 18 % 2 = 0 := fun h => c (by show V.int (n / 18 % 2) = V.int 0; rw [h])
      walk_at "ga"
      refine ⟨hlog, ?_⟩
      walk_at "ga"
      refine ⟨sz_of (by omega), ?_⟩
      rw [nameOf, decide_eq_false c'] at q
      exact q.go (Ex.refl _)
theorem ok_law_table {P : Program} {w : World} {K : PySem.W.Frag} {mg : Str → Option Value} {base : Heap} {CT CS CB : Addr} {f : Addr} {fd : FuncData} (F : Fun K "_law_table" "_law_table" s_law_table f fd) (T : Tx K mg CT CS CB)  :
    FnOk P w K mg base CX0 1 f fd P_law_table (sp_law_table K) := by
  refine F.ok sc_law_table (fun vs H Q E h => ?_) (fun cdv A outer s H vs Q E hr h => ?_)
  · obtain ⟨B, nv, xs, at', rfl, _⟩ := h
    rfl
  · obtain ⟨B, nv, xs, at', rfl, e, ⟨a, rfl, ha⟩, hN, hat, q⟩ := h
    refine ⟨_, (pss_cons (ps_set (i := 2) sc_law_table.nd rfl (Or.inl rfl) (pe_op op_add pe_int (pe_op op_mod (pe_callTy call_int1 rfl T.int boot_int (pa_cons (pe_ix ix_list (pv 0) (pv 1) (fun _ _ => rfl)) pa_nil)) pe_int)))
    (pss_one (ps_ret (pe_lc (own := [("_law_k", 3)])  rfl sc_law_table.nd  (pi_range1 rfl T.range (pa_cons (pv 2) pa_nil)) (blkOk_by (N := N_law_table) (sc := defScope s_law_table) (by decide +kernel)) (fun _ _ _ _ _ => pg_name (i := 3) sc_law_table.nd rfl (Or.inl rfl)) (fun _ _ _ _ _ => pts_nil) (fun _ _ _ _ _ => (pe_op op_mod (pe_callTy call_int1 rfl T.int boot_int (pa_cons (pe_ix (ix_listK K) (pv 0) (pe_op op_add (pe_op op_add (pv 1) pe_int) (pv 3)) (fun _ _ => rfl)) pa_nil)) pe_int)))))), ?_⟩
    obtain ⟨g0, g1, g2⟩ := hN.at at' (by omega)
    walk_at "go"
    refine ⟨a, _, _, _, rfl, rfl, ex_l e ha, atI_of rfl g0, ?_⟩
    walk_at "ga"
    refine ⟨by omega, by omega, ?_⟩
    have hn : (1 + xs.getD at' 0 % 3).toNat ≤ 3 ∧ 1 ≤ (1 + xs.getD at' 0 % 3).toNat := by omega
    generalize (1 + xs.getD at' 0 % 3).toNat = n at hn
    refine lc_RR (K := K) mono_I (Sg.refl e) n (fun i => xs.getD (at' + 1 + i) 0 % 4) (by omega) ?_ ?_
    · intro i N' H' hi eN G Nn Y hn' hy
      rw [show (0 : Int) + (i : Int) = (i : Int) from Int.zero_add _]
      obtain ⟨c0, c1, c2⟩ := hN.at (at' + 1 + i) (by omega)
      refine ⟨rfl, ?_⟩
      walk_at "go"
      refine ⟨a, _, _, _, rfl, rfl, ex_l (eN.trans G.eH) ha, atI_of (by omega) c0, ?_⟩
      walk_at "ga"
      exact hy rfl _ _ _ (Sg.refl G.eH) rfl
    · intro v N' H' eN G r
      refine (q _ ?_ ?_ ?_).go G (LI.of r)
      · rw [List.length_map, List.length_range]; exact hn.2
      · rw [List.length_map, List.length_range]; exact hn.1
      · intro x hx
        obtain ⟨i, hi, rfl⟩ := List.mem_map.mp hx
        omega
theorem ok_law_kinds {P : Program} {w : World} {K : PySem.W.Frag} {mg : Str → Option Value} {base : Heap} {CT CS CB : Addr} {f : Addr} {fd : FuncData} (F : Fun K "_law_kinds" "_law_kinds" s_law_kinds f fd) (T : Tx K mg CT CS CB) {f_law_name : Addr} {fd_law_name : FuncData} (C_law_name : CalF P w K mg base "_law_name" 1 P_law_name sp_law_name f_law_name fd_law_name) :
    FnOk P w K mg base CX0 2 f fd P_law_kinds (sp_law_kinds K) := by
  refine F.ok sc_law_kinds (fun vs H Q E h => ?_) (fun cdv A outer s H vs Q E hr h => ?_)
  · obtain ⟨B, nv, xs, at', rfl, _⟩ := h
    rfl
  · obtain ⟨B, nv, xs, at', rfl, e, ⟨a, rfl, ha⟩, hN, hat, q⟩ := h
    refine ⟨_, (pss_cons (ps_set (i := 2) sc_law_kinds.nd rfl (Or.inl rfl) (pe_lst pa_nil))
    (pss_cons (ps_for PassesOwn.never rfl (pi_range1 rfl T.range (pa_cons (pe_op op_add pe_int (pe_op op_mod (pe_callTy call_int1 rfl T.int boot_int (pa_cons (pe_ix ix_list (pv 0) (pv 1) (fun _ _ => rfl)) pa_nil)) pe_int)) pa_nil)) (pg_name (i := 3) sc_law_kinds.nd rfl (Or.inl rfl)) (pss_cons (ps_set (i := 4) sc_law_kinds.nd rfl (Or.inl rfl) (pe_call C_law_name.ok (hr.mono (by decide)) rfl C_law_name.g C_law_name.kp C_law_name.b .nil pass0 (pa_cons (pe_ix ix_list (pv 0) (pe_op op_add (pv 1) pe_int) (fun _ _ => rfl)) (pa_cons (pv 3) pa_nil))))
    (pss_one (ps_expr (pe_bm PySem.F.plainAttrs_list PySem.F.slot_list_append PySem.F.type_list_append mt_append (pv 2) (pa_cons (pe_tup (pa_cons (pv 4) (pa_cons (pe_op op_add pe_int (pe_op op_mod (pe_callTy call_int1 rfl T.int boot_int (pa_cons (pe_ix ix_list (pv 0) (pe_op op_add (pe_op op_add (pv 1) pe_int) (pe_op op_mul pe_int (pv 3))) (fun _ _ => rfl)) pa_nil)) pe_int)) (pa_cons (pe_op op_add pe_int (pe_op op_mod (pe_callTy call_int1 rfl T.int boot_int (pa_cons (pe_ix ix_list (pv 0) (pe_op op_add (pe_op op_add (pv 1) pe_int) (pe_op op_mul pe_int (pv 3))) (fun _ _ => rfl)) pa_nil)) pe_int)) pa_nil)))) pa_nil))))))
    (pss_one (ps_ret (pv 2))))), ?_⟩
    obtain ⟨g0, g1, g2⟩ := hN.at at' (by omega)
    obtain ⟨f0, f1, f2⟩ := hN.at (at' + 1) (by omega)
    refine ⟨sz0, fun l hl => ?_⟩
    have hBl := Evl.fresh_back e hl
    have G0 := (Sg.refl e).mut (o := .lst []) hBl hl
    walk_at "go"
    refine ⟨a, _, _, _, rfl, rfl, ex_l G0.eH ha, atI_of rfl g0, ?_⟩
    walk_at "ga"
    refine ⟨by omega, by omega, ?_⟩
    have hn : (1 + xs.getD at' 0 % 2).toNat ≤ 2 ∧ 1 ≤ (1 + xs.getD at' 0 % 2).toNat := by omega
    generalize (1 + xs.getD at' 0 % 2).toNat = n at hn
    refine for_range (fun i σ' H' => ∃ N', Sg B H N' H' ∧ N' l = none ∧ (∃ vs, H' l = some (.lst vs) ∧ Pr (rK3 K) N' ((List.range i).map (kOf xs at')) vs) ∧ ∃ u w, σ' = [some (.ref a), some (.int (at' : Int)), some (.ref l), u, w]) ⟨B, G0, hBl, ⟨[], upd_same, .nil⟩, _, _, rfl⟩ ?_ ?_
    · rintro i σ' H' hi ⟨N', G, hNl, ⟨vs, hHl, hpr⟩, u, w, rfl⟩
      rw [show (0 : Int) + (i : Int) = (i : Int) from Int.zero_add _]
      obtain ⟨c0, c1, c2⟩ := hN.at (at' + 2 + 2 * i) (by omega)
      obtain ⟨d0, d1, d2⟩ := hN.at (at' + 3 + 2 * i) (by omega)
      have eB := G.eN.trans G.eH
      walk_at "go"
      refine ⟨a, _, _, _, rfl, rfl, ex_l eB ha, atI_of (by omega) f0, ?_⟩
      walk_at "go"
      refine ⟨_, _, rfl, f1, f2, by omega, fun H2 e2 => ?_⟩
      have eB2 := eB.trans e2
      refine ⟨_, rfl, .inl ⟨rfl, _, SqL.of (e2 _ _ hHl)⟩, ?_⟩
      walk_at "ga"
      refine ⟨a, _, _, _, rfl, rfl, ex_l eB2 ha, atI_of (by omega) c0, ?_⟩
      walk_at "ga"
      refine ⟨a, _, _, _, rfl, rfl, ex_l eB2 ha, atI_of (by omega) d0, ?_⟩
      walk_at "ga"
      refine ⟨sz3, fun l2 hl2 => ?_⟩
      have hll : l ≠ l2 := fun h => by rw [← h, e2 _ _ hHl] at hl2; cases hl2
      have G2 := (G.ext e2).new (o := .tup [.str (kOf xs at' i).1, .int (kOf xs at' i).2.1, .int (kOf xs at' i).2.2]) hl2
      have hH2 := (upd_ne (o := .tup [.str (kOf xs at' i).1, .int (kOf xs at' i).2.1, .int (kOf xs at' i).2.2]) hll).trans (e2 _ _ hHl)
      have hN2 := (upd_ne (o := .tup [.str (kOf xs at' i).1, .int (kOf xs at' i).2.1, .int (kOf xs at' i).2.2]) hll).trans hNl
      have hlen := hpr.len
      rw [List.length_map, List.length_range] at hlen
      refine ⟨l, _, _, rfl, rfl, hH2, sz_lt (by omega), ?_⟩
      refine ⟨_, G2.mut hN2 hl, hN2, ⟨_, upd_same, ?_⟩, _, _, rfl⟩
      rw [List.range_succ, List.map_append]
      exact Pr.snoc ⟨l2, rfl, SqT.of upd_same⟩ (Pr.mono mono_K3 (ex_upd ((G.ext e2).free hl2).1) hpr)
    · rintro σ' H' ⟨N', G, hNl, ⟨vs, hHl, hpr⟩, u, w, rfl⟩
      exact ⟨_, rfl, (q _ (ksOk_of f1 hn.2 hn.1)).go (G.keep hNl hl hHl) ⟨l, vs, rfl, SqL.of upd_same, Pr.mono mono_K3 (ex_upd hNl) hpr⟩⟩
theorem ok_law_ways {P : Program} {w : World} {K : PySem.W.Frag} {mg : Str → Option Value} {base : Heap} {CT CS CB : Addr} {f : Addr} {fd : FuncData} (F : Fun K "_law_ways" "_law_ways" s_law_ways f fd) (T : Tx K mg CT CS CB)  :
    FnOk P w K mg base CX0 1 f fd P_law_ways (sp_law_ways K) := by
  refine F.ok sc_law_ways (fun vs H Q E h => ?_) (fun cdv A outer s H vs Q E hr h => ?_)
  · obtain ⟨B, nv, xs, at', kv, ks, rfl, _⟩ := h
    rfl
  · obtain ⟨B, nv, xs, at', kv, ks, rfl, e, ⟨a, rfl, ha⟩, hN, hat, ⟨ka, kvs, rfl, hka, hkr⟩, hk, q⟩ := h
    refine ⟨_, (pss_cons (ps_set (i := 3) sc_law_ways.nd rfl (Or.inl rfl) (pe_lst pa_nil))
    (pss_cons (ps_for PassesOwn.never rfl (pi_range1 rfl T.range (pa_cons (pe_op op_mod (pe_callTy call_int1 rfl T.int boot_int (pa_cons (pe_ix ix_list (pv 0) (pv 1) (fun _ _ => rfl)) pa_nil)) pe_int) pa_nil)) (pg_name (i := 4) sc_law_ways.nd rfl (Or.inl rfl)) (pss_cons (ps_set (i := 5) sc_law_ways.nd rfl (Or.inl rfl) (pe_ix ix_tup (pe_ix ix_list (pv 2) (pe_op op_mod (pe_callTy call_int1 rfl T.int boot_int (pa_cons (pe_ix ix_list (pv 0) (pe_op op_add (pe_op op_add (pv 1) pe_int) (pe_op op_mul pe_int (pv 4))) (fun _ _ => rfl)) pa_nil)) (pe_callB call_len_seq rfl T.len PySem.boot_len (pa_cons (pv 2) pa_nil))) (fun _ _ => rfl)) pe_int (fun _ _ => rfl)))
    (pss_cons (ps_set (i := 6) sc_law_ways.nd rfl (Or.inl rfl) (pe_ix ix_tup (pe_ix ix_list (pv 2) (pe_op op_mod (pe_callTy call_int1 rfl T.int boot_int (pa_cons (pe_ix ix_list (pv 0) (pe_op op_add (pe_op op_add (pv 1) pe_int) (pe_op op_mul pe_int (pv 4))) (fun _ _ => rfl)) pa_nil)) (pe_callB call_len_seq rfl T.len PySem.boot_len (pa_cons (pv 2) pa_nil))) (fun _ _ => rfl)) pe_int (fun _ _ => rfl)))
    (pss_one (ps_expr (pe_bm PySem.F.plainAttrs_list PySem.F.slot_list_append PySem.F.type_list_append mt_append (pv 3) (pa_cons (pe_tup (pa_cons (pv 5) (pa_cons (pv 6) (pa_cons (pe_op op_add pe_int (pe_op op_mod (pe_callTy call_int1 rfl T.int boot_int (pa_cons (pe_ix ix_list (pv 0) (pe_op op_add (pe_op op_add (pv 1) pe_int) (pe_op op_mul pe_int (pv 4))) (fun _ _ => rfl)) pa_nil)) pe_int)) pa_nil)))) pa_nil)))))))
    (pss_one (ps_ret (pv 3))))), ?_⟩
    obtain ⟨g0, g1, g2⟩ := hN.at at' (by omega)
    have hk1 := hk.ne
    have hkl := hkr.len
    refine ⟨sz0, fun l hl => ?_⟩
    have hBl := Evl.fresh_back e hl
    have G0 := (Sg.refl e).mut (o := .lst []) hBl hl
    walk_at "go"
    refine ⟨a, _, _, _, rfl, rfl, ex_l G0.eH ha, atI_of rfl g0, ?_⟩
    walk_at "ga"
    refine ⟨by omega, by omega, ?_⟩
    have hn : (xs.getD at' 0 % 4).toNat ≤ 3 := by omega
    generalize (xs.getD at' 0 % 4).toNat = n at hn
    refine for_range (fun i σ' H' => ∃ N', Sg B H N' H' ∧ N' l = none ∧ (∃ vs ws, H' l = some (.lst vs) ∧ Pr (rW3 K) N' ws vs ∧ ws.length = i ∧ ∀ w ∈ ws, w.1 ∈ ks.map (·.1) ∧ w.2.1 ∈ ks.map (·.1) ∧ 1 ≤ w.2.2 ∧ w.2.2 ≤ 1000) ∧ ∃ u w x, σ' = [some (.ref a), some (.int (at' : Int)), some (.ref ka), some (.ref l), u, w, x]) ⟨B, G0, hBl, ⟨[], [], upd_same, .nil, rfl, fun _ h => (by cases h)⟩, _, _, _, rfl⟩ ?_ ?_
    · rintro i σ' H' hi ⟨N', G, hNl, ⟨vs, ws, hHl, hpr, hwl, hws⟩, u, w, y, rfl⟩
      rw [show (0 : Int) + (i : Int) = (i : Int) from Int.zero_add _]
      obtain ⟨b0, b1, b2⟩ := hN.at (at' + 1 + 3 * i) (by omega)
      obtain ⟨c0, c1, c2⟩ := hN.at (at' + 2 + 3 * i) (by omega)
      obtain ⟨d0, d1, d2⟩ := hN.at (at' + 3 + 3 * i) (by omega)
      have eB := G.eN.trans G.eH
      have hak := ex_l eB ha
      have hkk := ex_l eB hka
      have hpick : ∀ x : Int, 0 ≤ x → ∃ k v, x % (ks.length : Int) = (((x % (ks.length : Int)).toNat : Nat) : Int) ∧ k ∈ ks ∧ kvs[(x % (ks.length : Int)).toNat]? = some v ∧ rK3 K k v B := fun x hx => by
        have q1 : 0 ≤ x % (ks.length : Int) := Int.emod_nonneg _ (by omega)
        have q2 : x % (ks.length : Int) < (ks.length : Int) := Int.emod_lt_of_pos _ (by omega)
        obtain ⟨v, hv, r⟩ := hkr.get (List.getElem?_eq_getElem (l := ks) (i := (x % (ks.length : Int)).toNat) (by omega))
        exact ⟨_, v, (Int.toNat_of_nonneg q1).symm, List.getElem_mem _, hv, r⟩
      obtain ⟨k1, v1, p1, p2, p3, ⟨ka1, rfl, hka1⟩⟩ := hpick _ b1
      obtain ⟨k2, v2, s1, s2, s3, ⟨ka2, rfl, hka2⟩⟩ := hpick _ c1
      have hka1' := ex_t eB hka1
      have hka2' := ex_t eB hka2
      walk_at "ga"
      refine ⟨a, _, _, _, rfl, rfl, hak, atI_of (by omega) b0, ?_⟩
      walk_at "ga"
      refine ⟨ka, kvs, rfl, .inl hkk, ?_⟩
      rw [← hkl]
      walk_at "ga"
      refine ⟨by show (0 : Int) < (ks.length : Int); omega, ?_⟩
      refine ⟨ka, kvs, _, _, rfl, rfl, hkk, atI_of p1 p3, ?_⟩
      walk_at "ga"
      refine ⟨a, _, _, _, rfl, rfl, hak, atI_of (by omega) c0, ?_⟩
      walk_at "ga"
      refine ⟨ka, kvs, rfl, .inl hkk, ?_⟩
      rw [← hkl]
      walk_at "ga"
      refine ⟨by show (0 : Int) < (ks.length : Int); omega, ?_⟩
      refine ⟨ka, kvs, _, _, rfl, rfl, hkk, atI_of s1 s3, ?_⟩
      walk_at "ga"
      refine ⟨.inl ⟨rfl, _, SqL.of hHl⟩, ?_⟩
      walk_at "ga"
      refine ⟨a, _, _, _, rfl, rfl, hak, atI_of (by omega) d0, ?_⟩
      walk_at "ga"
      refine ⟨sz3, fun l2 hl2 => ?_⟩
      have hll : l ≠ l2 := fun h => by rw [← h, hHl] at hl2; cases hl2
      have G2 := G.new (o := .tup [.str k1.1, .str k2.1, .int (1 + xs.getD (at' + 3 + 3 * i) 0 % 6)]) hl2
      have hH2 := (upd_ne (o := .tup [.str k1.1, .str k2.1, .int (1 + xs.getD (at' + 3 + 3 * i) 0 % 6)]) hll).trans hHl
      have hN2 := (upd_ne (o := .tup [.str k1.1, .str k2.1, .int (1 + xs.getD (at' + 3 + 3 * i) 0 % 6)]) hll).trans hNl
      have hlen := hpr.len
      refine ⟨l, _, _, rfl, rfl, hH2, sz_lt (by omega), ?_⟩
      refine ⟨_, G2.mut hN2 hl, hN2, ⟨_, ws ++ [(k1.1, k2.1, 1 + xs.getD (at' + 3 + 3 * i) 0 % 6)], upd_same, Pr.snoc ⟨l2, rfl, SqT.of upd_same⟩ (Pr.mono mono_W3 (ex_upd (G.free hl2).1) hpr), by rw [List.length_append, hwl]; rfl, fun w hw => ?_⟩, _, _, _, rfl⟩
      rcases List.mem_append.mp hw with h | h
      · exact hws w h
      · rw [List.mem_singleton.mp h]
        refine ⟨List.mem_map_of_mem p2, List.mem_map_of_mem s2, ?_⟩
        dsimp only
        omega
    · rintro σ' H' ⟨N', G, hNl, ⟨vs, ws, hHl, hpr, hwl, hws⟩, u, w, y, rfl⟩
      exact ⟨_, rfl, (q ws ⟨by omega, fun w hw => (hws w hw).1, fun w hw => (hws w hw).2.1, fun w hw => (hws w hw).2.2⟩).go (G.keep hNl hl hHl) ⟨l, vs, rfl, SqL.of upd_same, Pr.mono mono_W3 (ex_upd hNl) hpr⟩⟩
theorem ok_law_specs {P : Program} {w : World} {K : PySem.W.Frag} {mg : Str → Option Value} {base : Heap} {CT CS CB : Addr} {f : Addr} {fd : FuncData} (F : Fun K "_law_specs" "_law_specs" s_law_specs f fd) (T : Tx K mg CT CS CB) {f_law_kinds : Addr} {fd_law_kinds : FuncData} {f_law_ways : Addr} {fd_law_ways : FuncData} {f_law_name : Addr} {fd_law_name : FuncData} (C_law_kinds : CalF P w K mg base "_law_kinds" 2 P_law_kinds (sp_law_kinds K) f_law_kinds fd_law_kinds) (C_law_ways : CalF P w K mg base "_law_ways" 1 P_law_ways (sp_law_ways K) f_law_ways fd_law_ways) (C_law_name : CalF P w K mg base "_law_name" 1 P_law_name sp_law_name f_law_name fd_law_name) :
    FnOk P w K mg base CX0 3 f fd P_law_specs (sp_law_specs K) := by
  refine F.ok sc_law_specs (fun vs H Q E h => ?_) (fun cdv A outer s H vs Q E hr h => ?_)
  · obtain ⟨B, nv, xs, rfl, _⟩ := h
    rfl
  · obtain ⟨B, nv, xs, rfl, e, ⟨a, rfl, ha⟩, hN, q⟩ := h
    refine ⟨_, (pss_cons (ps_set (i := 1) sc_law_specs.nd rfl (Or.inl rfl) (pe_lst pa_nil))
    (pss_cons (ps_for PassesOwn.never rfl (pi_range1 rfl T.range (pa_cons (pe_op op_add pe_int (pe_op op_mod (pe_callTy call_int1 rfl T.int boot_int (pa_cons (pe_ix ix_list (pv 0) pe_int (fun _ _ => rfl)) pa_nil)) pe_int)) pa_nil)) (pg_name (i := 2) sc_law_specs.nd rfl (Or.inl rfl)) (pss_cons (ps_set (i := 3) sc_law_specs.nd rfl (Or.inl rfl) (pe_call C_law_kinds.ok (hr.mono (by decide)) rfl C_law_kinds.g C_law_kinds.kp C_law_kinds.b .nil pass0 (pa_cons (pv 0) (pa_cons (pe_op op_add pe_int (pe_op op_mul pe_int (pv 2))) pa_nil))))
    (pss_cons (ps_set (i := 4) sc_law_specs.nd rfl (Or.inl rfl) (pe_call C_law_ways.ok (hr.mono (by decide)) rfl C_law_ways.g C_law_ways.kp C_law_ways.b .nil pass0 (pa_cons (pv 0) (pa_cons (pe_op op_add pe_int (pe_op op_mul pe_int (pv 2))) (pa_cons (pv 3) pa_nil)))))
    (pss_one (ps_expr (pe_bm PySem.F.plainAttrs_list PySem.F.slot_list_append PySem.F.type_list_append mt_append (pv 1) (pa_cons (pe_tup (pa_cons (pe_call C_law_name.ok (hr.mono (by decide)) rfl C_law_name.g C_law_name.kp C_law_name.b .nil pass0 (pa_cons (pe_ix ix_list (pv 0) pe_int (fun _ _ => rfl)) (pa_cons (pv 2) pa_nil))) (pa_cons (pv 3) (pa_cons (pv 4) pa_nil)))) pa_nil)))))))
    (pss_one (ps_ret (pv 1))))), ?_⟩
    obtain ⟨g0, g1, g2⟩ := hN.at 0 (by omega)
    obtain ⟨f0, f1, f2⟩ := hN.at 1 (by omega)
    refine ⟨sz0, fun l hl => ?_⟩
    have hBl := Evl.fresh_back e hl
    have G0 := (Sg.refl e).mut (o := .lst []) hBl hl
    walk_at "go"
    refine ⟨a, _, _, _, rfl, rfl, ex_l G0.eH ha, atI_of rfl g0, ?_⟩
    walk_at "ga"
    refine ⟨by omega, by omega, ?_⟩
    have hn : (1 + xs.getD 0 0 % 2).toNat ≤ 2 ∧ 1 ≤ (1 + xs.getD 0 0 % 2).toNat := by omega
    generalize (1 + xs.getD 0 0 % 2).toNat = n at hn
    refine for_range (fun i σ' H' => ∃ N', Sg B H N' H' ∧ N' l = none ∧ (∃ vs ss, H' l = some (.lst vs) ∧ Pr (rSpec K) N' ss vs ∧ ss.map (·.1) = (List.range i).map (fun j => nameOf (xs.getD 1 0) ((j : Nat) : Int)) ∧ ∀ s ∈ ss, KsOk s.2.1 ∧ WaysOk s.2.1 s.2.2) ∧ ∃ u w x, σ' = [some (.ref a), some (.ref l), u, w, x]) ⟨B, G0, hBl, ⟨[], [], upd_same, .nil, rfl, fun _ h => (by cases h)⟩, _, _, _, rfl⟩ ?_ ?_
    · rintro i σ' H' hi ⟨N', G, hNl, ⟨vs, ss, hHl, hpr, hsn, hss⟩, u, w, y, rfl⟩
      rw [show (0 : Int) + (i : Int) = (i : Int) from Int.zero_add _]
      have eB := G.eN.trans G.eH
      walk_at "ga"
      refine ⟨N', _, xs, 2 + 17 * i, rfl, G.eH, ⟨a, rfl, ex_l G.eN ha⟩, hN, by omega, fun ks hks v1 N1 H1 G1 r1 => ?_⟩
      walk_at "ga"
      refine ⟨N1, _, xs, 8 + 17 * i, _, ks, rfl, G1.eH, ⟨a, rfl, ex_l (G.eN.trans G1.eN) ha⟩, hN, by omega, r1, hks, fun ws hws v2 N2 H2 G2 r2 => ?_⟩
      obtain ⟨hN1l, hH1l⟩ := G1.away hNl hHl
      obtain ⟨hN2l, hH2l⟩ := G2.away hN1l hH1l
      have G3 := (G.trans G1).trans G2
      refine ⟨_, rfl, .inl ⟨rfl, _, SqL.of hH2l⟩, ?_⟩
      walk_at "ga"
      refine ⟨a, _, _, _, rfl, rfl, ex_l (G3.eN.trans G3.eH) ha, atI_of rfl f0, ?_⟩
      walk_at "ga"
      refine ⟨_, _, rfl, f1, f2, by omega, fun H4 e4 => ?_⟩
      walk_at "go"
      refine ⟨sz3, fun l2 hl2 => ?_⟩
      have hH4l := e4 _ _ hH2l
      have hll : l ≠ l2 := fun h => by rw [← h, hH4l] at hl2; cases hl2
      have G4 := (G3.ext e4).new (o := .tup [.str (nameOf (xs.getD 1 0) (i : Int)), v1, v2]) hl2
      have hH5 := (upd_ne (o := .tup [.str (nameOf (xs.getD 1 0) (i : Int)), v1, v2]) hll).trans hH4l
      have hN5 := (upd_ne (o := .tup [.str (nameOf (xs.getD 1 0) (i : Int)), v1, v2]) hll).trans hN2l
      have eN5 := ex_upd (o := .tup [.str (nameOf (xs.getD 1 0) (i : Int)), v1, v2]) ((G3.ext e4).free hl2).1
      have hlen := hpr.len
      have hsl : ss.length = i := by
        have := congrArg List.length hsn
        rw [List.length_map, List.length_map, List.length_range] at this
        exact this
      refine ⟨l, _, _, rfl, rfl, hH5, sz_lt (by omega), ?_⟩
      refine ⟨_, G4.mut hN5 hl, hN5, ⟨_, ss ++ [(nameOf (xs.getD 1 0) (i : Int), ks, ws)], upd_same, Pr.snoc ⟨l2, _, _, rfl, SqT.of upd_same, mono_LR mono_K3 _ _ _ _ (G2.eN.trans eN5) r1, mono_LR mono_W3 _ _ _ _ eN5 r2⟩ (Pr.mono mono_Spec ((G1.eN.trans G2.eN).trans eN5) hpr), ?_, fun s hs => ?_⟩, _, _, _, rfl⟩
      · rw [List.map_append, hsn, List.range_succ, List.map_append]
        rfl
      · rcases List.mem_append.mp hs with h | h
        · exact hss s h
        · rw [List.mem_singleton.mp h]
          exact ⟨hks, hws⟩
    · rintro σ' H' ⟨N', G, hNl, ⟨vs, ss, hHl, hpr, hsn, hss⟩, u, w, y, rfl⟩
      have hsl : ss.length = n := by
        have := congrArg List.length hsn
        rw [List.length_map, List.length_map, List.length_range] at this
        exact this
      have hnn : ∀ s ∈ ss, NameOk s.1 := fun s hs => by
        have hm : s.1 ∈ ss.map (·.1) := List.mem_map_of_mem hs
        rw [hsn] at hm
        obtain ⟨j, hj, hje⟩ := List.mem_map.mp hm
        have hj := List.mem_range.mp hj
        rw [← hje]
        exact name_ok' f1 (by omega)
      have hnd : (ss.map (·.1)).Nodup := by
        rw [hsn]
        obtain ⟨_, _, c⟩ := name_ok f1
        obtain rfl | rfl : n = 1 ∨ n = 2 := by omega
        · exact List.nodup_cons.mpr ⟨List.not_mem_nil, List.nodup_nil⟩
        · refine List.nodup_cons.mpr ⟨fun h => ?_, List.nodup_cons.mpr ⟨List.not_mem_nil, List.nodup_nil⟩⟩
          rcases List.mem_cons.mp h with h | h
          · exact c h
          · cases h
      exact ⟨_, rfl, (q ss ⟨by omega, by omega, hnd, hnn, fun s hs => (hss s hs).1, fun s hs => (hss s hs).2⟩).go (G.keep hNl hl hHl) ⟨l, vs, rfl, SqL.of upd_same, Pr.mono mono_Spec (ex_upd hNl) hpr⟩⟩
theorem ok_law_scaled {P : Program} {w : World} {K : PySem.W.Frag} {mg : Str → Option Value} {base : Heap} {CT CS CB : Addr} {f : Addr} {fd : FuncData} (F : Fun K "_law_scaled" "_law_scaled" s_law_scaled f fd) (T : Tx K mg CT CS CB)  :
    FnOk P w K mg base CX0 1 f fd P_law_scaled (sp_law_scaled K) := by
  refine F.ok sc_law_scaled (fun vs H Q E h => ?_) (fun cdv A outer s H vs Q E hr h => ?_)
  · obtain ⟨B, sv, ss, f', rfl, _⟩ := h
    rfl
  · obtain ⟨B, sv, ss, f', rfl, e, ⟨sa, svs, rfl, hsa, hsr⟩, hok, hf1, hf2, q⟩ := h
    refine ⟨_, (pss_cons (ps_set (i := 2) sc_law_scaled.nd rfl (Or.inl rfl) (pe_lst pa_nil))
    (pss_cons (ps_for PassesOwn.never rfl (pi_list (pv 0)) (pg_name (i := 3) sc_law_scaled.nd rfl (Or.inl rfl)) (pss_cons (ps_setLc (i := 4) (own := [("_law_kind", 5)])  rfl sc_law_scaled.nd rfl rfl (sw_true rfl rfl rfl (by decide +kernel)) (pi_list (pe_ix ix_tup (pv 3) pe_int (fun _ _ => rfl))) (blkOk_by (N := N_law_scaled) (sc := defScope s_law_scaled) (by decide +kernel)) (fun _ _ _ _ _ => pg_name (i := 5) sc_law_scaled.nd rfl (Or.inl rfl)) (fun _ _ _ _ _ => pts_nil) (fun _ _ _ _ _ => (pe_tup (pa_cons (pe_ix (ix_tupK K) (pv 5) pe_int (fun _ _ => rfl)) (pa_cons (pe_op op_sub (pe_op op_mul (pe_ix (ix_tupK K) (pv 5) pe_int (fun _ _ => rfl)) (pv 1)) (pe_op op_fdiv (pv 1) pe_int)) (pa_cons (pe_ix (ix_tupK K) (pv 5) pe_int (fun _ _ => rfl)) pa_nil))))))
    (pss_one (ps_expr (pe_bm PySem.F.plainAttrs_list PySem.F.slot_list_append PySem.F.type_list_append mt_append (pv 2) (pa_cons (pe_tup (pa_cons (pe_ix ix_tup (pv 3) pe_int (fun _ _ => rfl)) (pa_cons (pv 4) (pa_cons (pe_ix ix_tup (pv 3) pe_int (fun _ _ => rfl)) pa_nil)))) pa_nil))))))
    (pss_one (ps_ret (pv 2))))), ?_⟩
    refine ⟨sz0, fun l hl => ?_⟩
    have hBl := Evl.fresh_back e hl
    have G0 := (Sg.refl e).mut (o := .lst []) hBl hl
    refine ⟨_, rfl, sa, rfl, ⟨_, ex_l G0.eH hsa⟩, ?_⟩
    refine for_LR hsa hsr (fun i σ' H' => ∃ N', Sg B H N' H' ∧ N' l = none ∧ (∃ vs, H' l = some (.lst vs) ∧ Pr (rSpec K) N' ((ss.take i).map (scaleS f')) vs) ∧ ∃ u w x, σ' = [some (.ref sa), some (.int (f' : Int)), some (.ref l), u, w, x]) ⟨B, G0, hBl, ⟨[], upd_same, .nil⟩, _, _, _, rfl⟩ (fun i σ' H' ⟨N', G, _⟩ => G.eN.trans G.eH) ?_ ?_
    · rintro i s' v σ' H' hx ⟨ta, kv, wv, rfl, hta, ⟨ka, kvs, rfl, hka, hkr⟩, hwr⟩ ⟨N', G, hNl, ⟨vs, hHl, hpr⟩, u, w, y, rfl⟩
      have eB := G.eN.trans G.eH
      have hta' := ex_t eB hta
      have hxm := List.mem_of_getElem? hx
      have hks := (hok.k s' hxm)
      dsimp only [tSeq, tAsg, gName]
      refine tlc_LR (S := rK3 K) mono_K3 (fun R r => ⟨_, rfl, ta, _, _, _, rfl, rfl, hta', rfl, ka, rfl, ⟨_, ex_l eB hka⟩, r⟩) (Sg.refl G.eH) (ex_l G.eN hka) (Pr.mono mono_K3 G.eN hkr) (fun _ => true) (fun k => (k.1, k.2.1 * (f' : Int) - (f' : Int) / 3, k.2.2)) (by have := hks.le; omega) ?_ ?_
      · rintro k v N2 H2 hk ⟨xa, hv, hxa⟩ eN2 G2
        subst hv
        intro Nn Y hn hy
        have hxa' := ex_t (eN2.trans G2.eH) hxa
        have hc := hks.c k hk
        refine ⟨rfl, ?_⟩
        walk_at "go"
        refine ⟨.inl ⟨by omega, by omega⟩, ?_⟩
        walk_at "ga"
        refine ⟨sz3, fun p hp => ?_⟩
        exact hy rfl _ _ _ ((Sg.refl G2.eH).new hp) ⟨p, rfl, SqT.of upd_same⟩
      · intro v2 N2 H2 eN2 G2 r2
        rw [filtT] at r2
        obtain ⟨hN2l, hH2l⟩ := G2.away hNl hHl
        have G3 := G.trans G2
        have hta2 := ex_t (G3.eN.trans G3.eH) hta
        refine ⟨_, rfl, .inl ⟨rfl, _, SqL.of hH2l⟩, ?_⟩
        walk_at "go"
        refine ⟨sz3, fun l2 hl2 => ?_⟩
        have hll : l ≠ l2 := fun h => by rw [← h, hH2l] at hl2; cases hl2
        have G4 := G3.new (o := .tup [.str s'.1, v2, wv]) hl2
        have hH4 := (upd_ne (o := .tup [.str s'.1, v2, wv]) hll).trans hH2l
        have hN4 := (upd_ne (o := .tup [.str s'.1, v2, wv]) hll).trans hN2l
        have hlen := hpr.len
        have hsl := hok.le
        rw [List.length_map, List.length_take] at hlen
        have eN4 := ex_upd (o := .tup [.str s'.1, v2, wv]) (G3.free hl2).1
        refine ⟨l, _, _, rfl, rfl, hH4, sz_lt (by omega), ?_⟩
        refine ⟨_, G4.mut hN4 hl, hN4, ⟨_, upd_same, ?_⟩, _, _, _, rfl⟩
        rw [take_succ_get hx, List.map_append]
        exact Pr.snoc ⟨l2, _, _, rfl, SqT.of upd_same, mono_LR mono_K3 _ _ _ _ eN4 r2, mono_LR mono_W3 _ _ _ _ (G3.eN.trans eN4) hwr⟩ (Pr.mono mono_Spec (eN2.trans eN4) hpr)
    · rintro σ' H' ⟨N', G, hNl, ⟨vs, hHl, hpr⟩, u, w, y, rfl⟩
      rw [List.take_length] at hpr
      exact ⟨_, rfl, q.go (G.keep hNl hl hHl) ⟨l, vs, rfl, SqL.of upd_same, Pr.mono mono_Spec (ex_upd hNl) hpr⟩⟩
theorem ok_law_system {P : Program} {w : World} {K : PySem.W.Frag} {mg : Str → Option Value} {base : Heap} {CT CS CB : Addr} {f : Addr} {fd : FuncData} (F : Fun K "_law_system" "_law_system" s_law_system f fd) (T : Tx K mg CT CS CB) {f_Task_init : Addr} {fd_Task_init : FuncData} {f_System_init : Addr} {fd_System_init : FuncData} (C_Task_init : CalIK P w K mg base CT 3 2 ["kinds", "ways"] P_Task_init (sp_Task_init K CT) f_Task_init fd_Task_init) (C_System_init : CalIK P w K mg base CS 2 2 ["table"] P_System_init (sp_System_init K CT CS) f_System_init fd_System_init) :
    FnOk P w K mg base CX0 5 f fd P_law_system (sp_law_system K CT CS) := by
  refine F.ok sc_law_system (fun vs H Q E h => ?_) (fun cdv A outer s H vs Q E hr h => ?_)
  · obtain ⟨B, sv, tv, ss, tb, rfl, _⟩ := h
    rfl
  · obtain ⟨B, sv, tv, ss, tb, rfl, e, ⟨sa, svs, rfl, hsa, hsr⟩, ⟨ta, rfl, hta⟩, hok, q⟩ := h
    refine ⟨_, (pss_cons (ps_setLc (i := 2) (own := [("_law_spec", 3)])  rfl sc_law_system.nd rfl rfl (sw_true rfl rfl rfl (by decide +kernel)) (pi_list (pv 0)) (blkOk_by (N := N_law_system) (sc := defScope s_law_system) (by decide +kernel)) (fun _ _ _ _ _ => pg_name (i := 3) sc_law_system.nd rfl (Or.inl rfl)) (fun _ _ _ _ _ => pts_nil) (fun _ _ _ _ _ => (pe_makeK C_Task_init.mki C_Task_init.ok (hr.mono (by decide)) rfl T.gTask C_Task_init.kb pass0 (pa_cons (pe_ix (ix_tupK K) (pv 3) pe_int (fun _ _ => rfl)) pa_nil) (pk_cons (pe_callTy (call_list_ofK K) rfl T.list boot_list (pa_cons (pe_ix (ix_tupK K) (pv 3) pe_int (fun _ _ => rfl)) pa_nil)) (pk_cons (pe_callTy (call_list_ofK K) rfl T.list boot_list (pa_cons (pe_ix (ix_tupK K) (pv 3) pe_int (fun _ _ => rfl)) pa_nil)) pk_nil)))))
    (pss_one (ps_ret (pe_makeK C_System_init.mki C_System_init.ok (hr.mono (by decide)) rfl T.gSystem C_System_init.kb pass0 (pa_cons (pv 2) pa_nil) (pk_cons (pe_callTy call_list_of rfl T.list boot_list (pa_cons (pv 1) pa_nil)) pk_nil))))), ?_⟩
    have hsl : ss.length ≤ 6 := by have := hok.le; rw [List.length_map] at this; exact this
    dsimp only [tSeq, tAsg, gName]
    refine tlc_LR (S := rT K CT) mono_T (fun R r => ⟨_, rfl, sa, rfl, ⟨_, ex_l e hsa⟩, r⟩) (Sg.refl e) hsa hsr (fun _ => true) tkOf (by omega) ?_ ?_
    · rintro s' v N' H' hx ⟨a, kv, wv, hv, ha, ⟨ka, kvs, rfl, hka, hkr⟩, ⟨wa, wvs, rfl, hwa, hwr⟩⟩ eN G
      subst hv
      intro Nn Y hn hy
      have eB := eN.trans G.eH
      have ha' := ex_t eB ha
      have okT := hok.t (tkOf s') (List.mem_map_of_mem hx)
      refine ⟨rfl, ?_⟩
      walk_at "go"
      refine ⟨ka, kvs, rfl, .inl (ex_l eB hka), fun l hl => ?_⟩
      have G1 := (Sg.refl G.eH).new (o := .lst kvs) hl
      have ha1 := ex_t G1.e0 ha'
      walk_at "go"
      refine ⟨wa, wvs, rfl, .inl (ex_l (eB.trans G1.e0) hwa), fun l2 hl2 => ?_⟩
      have G2 := G1.new (o := .lst wvs) hl2
      refine ⟨rfl, rfl, fun x dx hx hdx hne => ?_⟩
      have e12 := ex_upd (o := .lst wvs) (G1.free hl2).1
      have eN2 := eN.trans G2.eN
      refine ⟨_, x, dx, tkOf s', _, _, rfl, G2.eH.trans (ex_made hx hdx hne), (G2.free hx).1, upd_same, ⟨l, kvs, rfl, SqL.of (e12 _ _ upd_same), Pr.mono mono_K3 eN2 hkr⟩, .inl ⟨l2, wvs, rfl, SqL.of upd_same, Pr.mono mono_W3 eN2 hwr⟩, okT, ?_⟩
      rintro N3 H3 dx' fs' eN3 eH3 hkp hnw hNp hp2 ⟨kv2, wv2, w1, w2, w3, w4, w5, w6, w7⟩
      have eN4 := ex_upd (o := .ins CT dx' fs') hNp
      exact ⟨rfl, hy rfl _ _ _ (G2.made hx hdx hne eN3 eH3 hkp hnw hNp hp2) ⟨x, dx', fs', kv2, wv2, rfl, upd_same, w1, w2, w3, w4, w5, mono_TR mono_K3 _ _ _ _ eN4 w6, mono_TR mono_W3 _ _ _ _ eN4 w7⟩⟩
    · intro v N1 H1 eN1 G r
      rw [filtT] at r
      walk_at "go"
      refine ⟨ta, _, rfl, .inl (ex_l (G.eN.trans G.eH) hta), fun l hl => ?_⟩
      have G1 := G.new (o := .lst (tb.map V.int)) hl
      refine ⟨rfl, rfl, fun x dx hx hdx hne => ?_⟩
      have e1 := ex_upd (o := .lst (tb.map V.int)) (G.free hl).1
      refine ⟨_, x, dx, ss.map tkOf, tb, _, _, rfl, G1.eH.trans (ex_made hx hdx hne), (G1.free hx).1, upd_same, mono_LR mono_T _ _ _ _ e1 r, .inl ⟨l, rfl, SqL.of upd_same⟩, hok, ?_⟩
      rintro N3 H3 dx' fs' eN3 eH3 hkp hnw hNp hp2 ⟨tv2, bv2, w1, w2, w3, w4⟩
      have eN4 := ex_upd (o := .ins CS dx' fs') hNp
      exact ⟨rfl, q.go (G1.made hx hdx hne eN3 eH3 hkp hnw hNp hp2) ⟨x, dx', fs', tv2, bv2, rfl, upd_same, w1, w2, mono_TR mono_T _ _ _ _ eN4 w3, mono_TI _ _ _ _ eN4 w4⟩⟩
theorem ok_law_course {P : Program} {w : World} {K : PySem.W.Frag} {mg : Str → Option Value} {base : Heap} {CT CS CB : Addr} {f : Addr} {fd : FuncData} (F : Fun K "_law_course" "_law_course" s_law_course f fd) (T : Tx K mg CT CS CB)  :
    FnOk P w K mg base CX0 1 f fd P_law_course (sp_law_course K) := by
  refine F.ok sc_law_course (fun vs H Q E h => ?_) (fun cdv A outer s H vs Q E hr h => ?_)
  · obtain ⟨B, nv, xs, at', kv, ks, wv, ws, m, rfl, _⟩ := h
    rfl
  · obtain ⟨B, nv, xs, at', kv, ks, wv, ws, m, rfl, e, ⟨a, rfl, ha⟩, hN, hat, ⟨ka, kvs, rfl, hka, hkr⟩, ⟨wa, wvs, rfl, hwa, hwr⟩, hk1, hw, hm1, hm2, q⟩ := h
    refine ⟨_, (pss_cons (ps_set (i := 5) sc_law_course.nd rfl (Or.inr rfl) (pe_ix ix_tup (pe_ix ix_list (pv 2) (pe_op op_mod (pe_callTy call_int1 rfl T.int boot_int (pa_cons (pe_ix ix_list (pv 0) (pv 1) (fun _ _ => rfl)) pa_nil)) (pe_callB call_len_seq rfl T.len PySem.boot_len (pa_cons (pv 2) pa_nil))) (fun _ _ => rfl)) pe_int (fun _ _ => rfl)))
    (pss_cons (ps_set (i := 6) sc_law_course.nd rfl (Or.inl rfl) (pe_op op_mod (pe_callTy call_int1 rfl T.int boot_int (pa_cons (pe_ix ix_list (pv 0) (pe_op op_add (pv 1) pe_int) (fun _ _ => rfl)) pa_nil)) pe_int))
    (pss_cons (ps_set (i := 7) sc_law_course.nd rfl (Or.inl rfl) (pe_lst (pa_cons (pe_tup (pa_cons (pv 6) (pa_cons (pv 5) pa_nil))) pa_nil)))
    (pss_cons (ps_for PassesOwn.never rfl (pi_range1 rfl T.range (pa_cons (pe_op op_sub (pv 4) pe_int) pa_nil)) (pg_name (i := 8) sc_law_course.nd rfl (Or.inl rfl)) (pss_cons (ps_setLc (i := 9) (own := [("_law_way", 10)])  rfl sc_law_course.nd rfl rfl (sw_true rfl rfl rfl (by decide +kernel)) (pi_list (pv 3)) (blkOk_by (N := N_law_course) (sc := defScope s_law_course) (by decide +kernel)) (fun _ _ _ _ _ => pg_name (i := 10) sc_law_course.nd rfl (Or.inl rfl)) (fun _ _ _ _ _ => (pts_one (pt_cmpR op_eq (pe_ix (ix_tupK K) (pv 10) pe_int (fun _ _ => rfl)) (pv 5) (nomark _)))) (fun _ _ _ _ _ => (pv 10)))
    (pss_cons (ps_if (pt_cmpR op_eq (pe_callB call_len_seq rfl T.len PySem.boot_len (pa_cons (pv 9) pa_nil)) pe_int (nomark _)) (pss_one (ps_ret (pv 7))) pss_nil)
    (pss_cons (ps_set (i := 10) sc_law_course.nd rfl (Or.inl rfl) (pe_ix ix_list (pv 9) (pe_op op_mod (pe_callTy call_int1 rfl T.int boot_int (pa_cons (pe_ix ix_list (pv 0) (pe_op op_add (pe_op op_add (pv 1) pe_int) (pe_op op_mul pe_int (pv 8))) (fun _ _ => rfl)) pa_nil)) (pe_callB call_len_seq rfl T.len PySem.boot_len (pa_cons (pv 9) pa_nil))) (fun _ _ => rfl)))
    (pss_cons (ps_set (i := 6) sc_law_course.nd rfl (Or.inl rfl) (pe_op op_add (pe_op op_add (pv 6) (pe_ix ix_tup (pv 10) pe_int (fun _ _ => rfl))) (pe_callB (call_max2 rfl) rfl T.max boot_max (pa_cons pe_int (pa_cons (pe_op op_sub (pe_op op_mod (pe_callTy call_int1 rfl T.int boot_int (pa_cons (pe_ix ix_list (pv 0) (pe_op op_add (pe_op op_add (pv 1) pe_int) (pe_op op_mul pe_int (pv 8))) (fun _ _ => rfl)) pa_nil)) pe_int) pe_int) pa_nil)))))
    (pss_cons (ps_set (i := 5) sc_law_course.nd rfl (Or.inr rfl) (pe_ix ix_tup (pv 10) pe_int (fun _ _ => rfl)))
    (pss_one (ps_expr (pe_bm PySem.F.plainAttrs_list PySem.F.slot_list_append PySem.F.type_list_append mt_append (pv 7) (pa_cons (pe_tup (pa_cons (pv 6) (pa_cons (pv 5) pa_nil))) pa_nil))))))))))
    (pss_one (ps_ret (pv 7))))))), ?_⟩
    obtain ⟨g0, g1, g2⟩ := hN.at at' (by omega)
    obtain ⟨f0, f1, f2⟩ := hN.at (at' + 1) (by omega)
    have hkl := hkr.len
    have hpick : ∃ k v, xs.getD at' 0 % (ks.length : Int) = (((xs.getD at' 0 % (ks.length : Int)).toNat : Nat) : Int) ∧ k ∈ ks ∧ kvs[(xs.getD at' 0 % (ks.length : Int)).toNat]? = some v ∧ rK3 K k v B := by
      have q1 : 0 ≤ xs.getD at' 0 % (ks.length : Int) := Int.emod_nonneg _ (by omega)
      have q2 : xs.getD at' 0 % (ks.length : Int) < (ks.length : Int) := Int.emod_lt_of_pos _ (by omega)
      obtain ⟨v, hv, r⟩ := hkr.get (List.getElem?_eq_getElem (l := ks) (i := (xs.getD at' 0 % (ks.length : Int)).toNat) (by omega))
      exact ⟨_, v, (Int.toNat_of_nonneg q1).symm, List.getElem_mem _, hv, r⟩
    obtain ⟨k1, v1, p1, p2, p3, ⟨ka1, rfl, hka1⟩⟩ := hpick
    have hka1' := ex_t e hka1
    walk_at "ga"
    refine ⟨a, _, _, _, rfl, rfl, ex_l e ha, atI_of rfl g0, ?_⟩
    walk_at "ga"
    refine ⟨ka, kvs, rfl, .inl (ex_l e hka), ?_⟩
    rw [← hkl]
    walk_at "ga"
    refine ⟨by show (0 : Int) < (ks.length : Int); omega, ?_⟩
    refine ⟨ka, kvs, _, _, rfl, rfl, ex_l e hka, atI_of p1 p3, ?_⟩
    walk_at "ga"
    refine ⟨a, _, _, _, rfl, rfl, ex_l e ha, atI_of (by omega) f0, ?_⟩
    walk_at "ga"
    refine ⟨sz2, fun l0 hl0 => ⟨sz1, fun l hl => ?_⟩⟩
    have G1 := (Sg.refl e).new (o := .tup [.int (xs.getD (at' + 1) 0 % 6), .str k1.1]) hl0
    obtain ⟨hNl, hHl⟩ := G1.free hl
    have G2 := G1.mut (o := .lst [.ref l0]) hNl hHl
    walk_at "go"
    refine ⟨by omega, by omega, ?_⟩
    have hn : ((m : Int) - 1).toNat ≤ 8 := by omega
    generalize ((m : Int) - 1).toNat = n at hn
    refine for_range (fun i σ' H' => ∃ N', Sg B H N' H' ∧ N' l = none ∧ (∃ vs pre t k, H' l = some (.lst vs) ∧ Pr (rRel K) N' (pre ++ [(t, k)]) vs ∧ NLM.Legal (ks.map fun k : K3 => k.1) ws (pre ++ [(t, k)]) ∧ (∀ x ∈ pre ++ [(t, k)], 0 ≤ x.1) ∧ (pre ++ [(t, k)]).length ≤ i + 1 ∧
      ∃ u w x, σ' = [some (.ref a), some (.int (at' : Int)), some (.ref ka), some (.ref wa), some (.int (m : Int)), some (.str k), some (.int t), some (.ref l), u, w, x]))
      ⟨_, G2, hNl, _, [], xs.getD (at' + 1) 0 % 6, k1.1, upd_same, .cons ⟨l0, rfl, SqT.of upd_same⟩ .nil, List.mem_map_of_mem p2, (fun x hx => ?_), Nat.le_refl 1, _, _, _, rfl⟩ ?_ ?_
    · rw [List.mem_singleton.mp hx]
      show 0 ≤ xs.getD (at' + 1) 0 % 6
      omega
    · rintro i σ' H' hi ⟨N', G, hNl', vs, pre, t, k, hH'l, hpr, hleg, hpos, hlen, u, w, y, rfl⟩
      rw [show (0 : Int) + (i : Int) = (i : Int) from Int.zero_add _]
      obtain ⟨c0, c1, c2⟩ := hN.at (at' + 2 + 2 * i) (by omega)
      obtain ⟨d0, d1, d2⟩ := hN.at (at' + 3 + 2 * i) (by omega)
      have eB := G.eN.trans G.eH
      dsimp only [tSeq, tAsg, gName]
      refine tlc_LR (S := rW3 K) mono_W3 (fun R r => ⟨_, rfl, wa, rfl, ⟨_, ex_l eB hwa⟩, r⟩) (Sg.refl G.eH) (ex_l G.eN hwa) (Pr.mono mono_W3 G.eN hwr) (fun w => decide (w.1 = k)) (fun w => w) (by have := hw.le; omega) ?_ ?_
      · rintro w0 v N2 H2 hk ⟨xa, hv, hxa⟩ eN2 G3
        subst hv
        intro Nn Y hn' hy
        have hxa' := ex_t (eN2.trans G3.eH) hxa
        refine ⟨rfl, ?_⟩
        walk_at "go"
        refine ited (fun c => ?_) (fun c => ?_)
        · walk_at "go"
          exact hy (decide_eq_true (V.str.inj c)) _ _ _ (Sg.refl G3.eH) ⟨xa, rfl, ex_t eN2 hxa⟩
        · exact hn' (decide_eq_false fun h => c (by rw [h])) _ _ (Sg.refl G3.eH)
      · intro v2 N2 H2 eN2 G3 r2
        rw [List.map_id'] at r2
        obtain ⟨ca, cvs, rfl, hca, hcr⟩ := r2
        obtain ⟨hN2l, hH2l⟩ := G3.away hNl' hH'l
        have G4 := G.trans G3
        have hcl := hcr.len
        have hvl := hpr.len
        have hcaH := ex_l G3.eH hca
        refine ⟨_, rfl, ca, cvs, rfl, .inl hcaH, rfl, _, rfl, ?_⟩
        refine ited (fun c => ?_) (fun c => ?_)
        · refine ⟨_, rfl, ?_⟩
          exact (q _ hleg hpos (by omega)).go (G4.keep hN2l hHl hH2l) ⟨l, vs, rfl, SqL.of upd_same, Pr.mono mono_Rel (G3.eN.trans (ex_upd hN2l)) hpr⟩
        · have hcp : 0 < cvs.length := Nat.pos_of_ne_zero fun h => c (by rw [h]; rfl)
          generalize hcs : ws.filter (fun w => decide (w.1 = k)) = cs at hcr hcl
          have hpick2 : ∃ w0 v, xs.getD (at' + 2 + 2 * i) 0 % (cs.length : Int) = (((xs.getD (at' + 2 + 2 * i) 0 % (cs.length : Int)).toNat : Nat) : Int) ∧ w0 ∈ cs ∧ cvs[(xs.getD (at' + 2 + 2 * i) 0 % (cs.length : Int)).toNat]? = some v ∧ rW3 K w0 v N2 := by
            have q1 : 0 ≤ xs.getD (at' + 2 + 2 * i) 0 % (cs.length : Int) := Int.emod_nonneg _ (by omega)
            have q2 : xs.getD (at' + 2 + 2 * i) 0 % (cs.length : Int) < (cs.length : Int) := Int.emod_lt_of_pos _ (by omega)
            obtain ⟨v, hv, r⟩ := hcr.get (List.getElem?_eq_getElem (l := cs) (i := (xs.getD (at' + 2 + 2 * i) 0 % (cs.length : Int)).toNat) (by omega))
            exact ⟨_, v, (Int.toNat_of_nonneg q1).symm, List.getElem_mem _, hv, r⟩
          obtain ⟨w0, v0, s1, s2, s3, ⟨xa, rfl, hxa⟩⟩ := hpick2
          rw [← hcs] at s2
          obtain ⟨hw0, hw0k⟩ := List.mem_filter.mp s2
          have hw0k := of_decide_eq_true hw0k
          have hxa' := ex_t G3.eH hxa
          have haH := ex_l (G4.eN.trans G4.eH) ha
          walk_at "ga"
          refine ⟨a, _, _, _, rfl, rfl, haH, atI_of (by omega) c0, ?_⟩
          walk_at "ga"
          refine ⟨ca, cvs, rfl, .inl hcaH, ?_⟩
          rw [← hcl]
          walk_at "ga"
          refine ⟨by show (0 : Int) < (cs.length : Int); omega, ?_⟩
          refine ⟨ca, cvs, _, _, rfl, rfl, hcaH, atI_of s1 s3, ?_⟩
          walk_at "ga"
          refine ⟨a, _, _, _, rfl, rfl, haH, atI_of (by omega) d0, ?_⟩
          walk_at "ga"
          refine ⟨_, _, rfl, ?_⟩
          walk_at "ga"
          refine ⟨.inl ⟨rfl, _, SqL.of hH2l⟩, ?_⟩
          walk_at "ga"
          refine ⟨sz2, fun l2 hl2 => ?_⟩
          have hx0 : 0 ≤ (if xs.getD (at' + 3 + 2 * i) 0 % 6 - 3 > 0 then xs.getD (at' + 3 + 2 * i) 0 % 6 - 3 else (0 : Int)) := by
            by_cases h : xs.getD (at' + 3 + 2 * i) 0 % 6 - 3 > 0
            · rw [if_pos h]; omega
            · rw [if_neg h]; omega
          generalize (if xs.getD (at' + 3 + 2 * i) 0 % 6 - 3 > 0 then xs.getD (at' + 3 + 2 * i) 0 % 6 - 3 else (0 : Int)) = x0 at hx0
          have hll : l ≠ l2 := fun h => by rw [← h, hH2l] at hl2; cases hl2
          have G5 := G4.new (o := .tup [.int (t + w0.2.2 + x0), .str w0.2.1]) hl2
          have hH5 := (upd_ne (o := .tup [.int (t + w0.2.2 + x0), .str w0.2.1]) hll).trans hH2l
          have hN5 := (upd_ne (o := .tup [.int (t + w0.2.2 + x0), .str w0.2.1]) hll).trans hN2l
          have hwd := hw.d w0 hw0
          have hpt := hpos (t, k) (List.mem_append_right _ (List.mem_singleton.mpr rfl))
          dsimp only at hpt
          refine ⟨l, _, _, rfl, rfl, hH5, sz_lt (by omega), ?_⟩
          refine ⟨_, G5.mut hN5 hHl, hN5, _, pre ++ [(t, k)], t + w0.2.2 + x0, w0.2.1, upd_same, Pr.snoc ⟨l2, rfl, SqT.of upd_same⟩ (Pr.mono mono_Rel (G3.eN.trans (ex_upd (G4.free hl2).1)) hpr), NLM.legal_snoc hleg ⟨w0, hw0, hw0k, rfl, by dsimp only; omega⟩ (hw.t w0 hw0), fun z hz => ?_, ?_, _, _, _, rfl⟩
          · rcases List.mem_append.mp hz with h | h
            · exact hpos z h
            · rw [List.mem_singleton.mp h]
              dsimp only
              omega
          · rw [List.length_append, List.length_singleton]
            omega
    · rintro σ' H' ⟨N', G, hNl', vs, pre, t, k, hH'l, hpr, hleg, hpos, hlen, u, w, y, rfl⟩
      exact ⟨_, rfl, (q _ hleg hpos (by omega)).go (G.keep hNl' hHl hH'l) ⟨l, vs, rfl, SqL.of upd_same, Pr.mono mono_Rel (ex_upd hNl') hpr⟩⟩
theorem ok_law_follows {P : Program} {w : World} {K : PySem.W.Frag} {mg : Str → Option Value} {base : Heap} {CT CS CB : Addr} {f : Addr} {fd : FuncData} (F : Fun K "_law_follows" "_law_follows" s_law_follows f fd) (T : Tx K mg CT CS CB)  :
    FnOk P w K mg base CX0 1 f fd P_law_follows (sp_law_follows K) := by
  refine F.ok sc_law_follows (fun vs H Q E h => ?_) (fun cdv A outer s H vs Q E hr h => ?_)
  · obtain ⟨B, sv, s', av, a', bv, b', rfl, _⟩ := h
    rfl
  · obtain ⟨B, sv, s', av, a', bv, b', rfl, e, ⟨sa, kv, wv, rfl, hsa, hkr, ⟨wa, wvs, rfl, hwa, hwr⟩⟩, ⟨aa, rfl, haa⟩, ⟨ba, rfl, hba⟩, hf, q⟩ := h
    refine ⟨_, (pss_cons (ps_for PassesOwn.never rfl (pi_list (pe_ix ix_tup (pv 0) pe_int (fun _ _ => rfl))) (pg_name (i := 3) sc_law_follows.nd rfl (Or.inl rfl)) (pss_one (ps_if (PW.pt (pw_and (pt_cmpR op_eq (pe_ix ix_tup (pv 3) pe_int (fun _ _ => rfl)) (pe_ix ix_tup (pv 1) pe_int (fun _ _ => rfl)) (nomark _)) (pw_and (pt_cmpR op_eq (pe_ix ix_tup (pv 3) pe_int (fun _ _ => rfl)) (pe_ix ix_tup (pv 2) pe_int (fun _ _ => rfl)) (nomark _)) (pw_and1 (pt_cmpR op_ge (pe_op op_sub (pe_ix ix_tup (pv 2) pe_int (fun _ _ => rfl)) (pe_ix ix_tup (pv 1) pe_int (fun _ _ => rfl))) (pe_ix ix_tup (pv 3) pe_int (fun _ _ => rfl)) (nomark _)))))) (pss_one (ps_ret pe_bl)) pss_nil)))
    (pss_one (ps_ret pe_bl))), ?_⟩
    obtain ⟨w0, hw0, f1, f2, f3⟩ := hf
    obtain ⟨j0, hj0, hj0e⟩ := List.mem_iff_getElem.mp hw0
    have hsa' := ex_t e hsa
    walk_at "go"
    refine ⟨⟨_, ex_l e hwa⟩, ?_⟩
    refine for_LR hwa hwr (fun i σ' H' => Ex H H' ∧ i ≤ j0 ∧ ∃ u, σ' = [some (.ref sa), some (.ref aa), some (.ref ba), u]) ⟨Ex.refl _, Nat.zero_le _, _, rfl⟩ (fun i σ' H' ⟨e1, _⟩ => e.trans e1) ?_ ?_
    · rintro i w v σ' H' hx ⟨xa, rfl, hxa⟩ ⟨e1, hle, u, rfl⟩
      have eB := e.trans e1
      have hxa' := ex_t eB hxa
      have haa' := ex_t eB haa
      have hba' := ex_t eB hba
      have hnext : w ≠ w0 → i + 1 ≤ j0 := fun hne => by
        rcases Nat.lt_or_eq_of_le hle with h | h
        · exact h
        · subst h
          rw [List.getElem?_eq_getElem hj0] at hx
          cases hx
          exact absurd hj0e hne
      walk_at "go"
      refine ited (fun c1 => ?_) (fun c1 => ⟨e1, hnext fun h => c1 (by rw [h, f1]), _, rfl⟩)
      walk_at "go"
      refine ited (fun c2 => ?_) (fun c2 => ⟨e1, hnext fun h => c2 (by rw [h, f2]), _, rfl⟩)
      walk_at "go"
      refine ited (fun c3 => ?_) (fun c3 => ⟨e1, hnext fun h => c3 (by rw [h]; exact f3), _, rfl⟩)
      exact q.go e1
    · rintro σ' H' ⟨e1, hle, u, rfl⟩
      exact absurd hle (by omega)
theorem ok_law_cost {P : Program} {w : World} {K : PySem.W.Frag} {mg : Str → Option Value} {base : Heap} {CT CS CB : Addr} {f : Addr} {fd : FuncData} (F : Fun K "_law_cost" "_law_cost" s_law_cost f fd) (T : Tx K mg CT CS CB)  :
    FnOk P w K mg base CX0 1 f fd P_law_cost (sp_law_cost K) := by
  refine F.ok sc_law_cost (fun vs H Q E h => ?_) (fun cdv A outer s H vs Q E hr h => ?_)
  · obtain ⟨B, sv, s', nm, rfl, _⟩ := h
    rfl
  · obtain ⟨B, sv, s', nm, rfl, e, ⟨sa, kv, wv, rfl, hsa, ⟨ka, kvs, rfl, hka, hkr⟩, hwr⟩, q⟩ := h
    refine ⟨_, (pss_cons (ps_for PassesOwn.never rfl (pi_list (pe_ix ix_tup (pv 0) pe_int (fun _ _ => rfl))) (pg_name (i := 2) sc_law_cost.nd rfl (Or.inl rfl)) (pss_one (ps_if (pt_cmpR op_eq (pe_ix ix_tup (pv 2) pe_int (fun _ _ => rfl)) (pv 1) (nomark _)) (pss_one (ps_ret (pe_ix ix_tup (pv 2) pe_int (fun _ _ => rfl)))) pss_nil)))
    (pss_one (ps_ret pe_int))), ?_⟩
    have hsa' := ex_t e hsa
    walk_at "go"
    refine ⟨⟨_, ex_l e hka⟩, ?_⟩
    refine for_LR hka hkr (fun i σ' H' => Ex H H' ∧ (∀ (j : Nat) (k : K3), j < i → s'.2.1[j]? = some k → k.1 ≠ nm) ∧ ∃ u, σ' = [some (.ref sa), some (.str nm), u]) ⟨Ex.refl _, fun j k h => absurd h (Nat.not_lt_zero _), _, rfl⟩ (fun i σ' H' ⟨e1, _⟩ => e.trans e1) ?_ ?_
    · rintro i k v σ' H' hx ⟨xa, rfl, hxa⟩ ⟨e1, hno, u, rfl⟩
      have hxa' := ex_t (e.trans e1) hxa
      walk_at "go"
      refine ited (fun c => ?_) (fun c => ?_)
      · injection c with c
        walk_at "go"
        rw [NLM.costOf, find_at hx (decide_eq_true c) fun j k' hj hk' => decide_eq_false (hno j k' hj hk')] at q
        exact q.go e1
      · refine ⟨e1, fun j k' hj hk' => ?_, _, rfl⟩
        rcases Nat.lt_or_eq_of_le (Nat.le_of_lt_succ hj) with h | h
        · exact hno j k' h hk'
        · rw [h, hx] at hk'
          cases hk'
          exact fun h => c (by rw [h])
    · rintro σ' H' ⟨e1, hno, u, rfl⟩
      have hnone : s'.2.1.find? (fun k : K3 => decide (k.1 = nm)) = none := List.find?_eq_none.mpr fun k hk => by
        obtain ⟨j, hj, rfl⟩ := List.mem_iff_getElem.mp hk
        have := hno j _ hj (List.getElem?_eq_getElem hj)
        simpa using this
      rw [NLM.costOf, hnone] at q
      exact q.go e1
theorem ok_law_waiting {P : Program} {w : World} {K : PySem.W.Frag} {mg : Str → Option Value} {base : Heap} {CT CS CB : Addr} {f : Addr} {fd : FuncData} (F : Fun K "_law_waiting" "_law_waiting" s_law_waiting f fd) (T : Tx K mg CT CS CB) {f_law_cost : Addr} {fd_law_cost : FuncData} (C_law_cost : CalF P w K mg base "_law_cost" 1 P_law_cost (sp_law_cost K) f_law_cost fd_law_cost) :
    FnOk P w K mg base CX0 2 f fd P_law_waiting (sp_law_waiting K) := by
  refine F.ok sc_law_waiting (fun vs H Q E h => ?_) (fun cdv A outer s H vs Q E hr h => ?_)
  · obtain ⟨B, sv, tv, rv, ss, tb, LL, n, rfl, _⟩ := h
    rfl
  · obtain ⟨B, sv, tv, rv, ss, tb, LL, n, rfl, e, ⟨sa, svs, rfl, hsa, hsr⟩, ⟨ta, rfl, hta⟩, ⟨ra, rvs, rfl, hra, hrr⟩, hLL, hss, ht1, ht2, hn, q⟩ := h
    refine ⟨_, (pss_cons (ps_set (i := 4) sc_law_waiting.nd rfl (Or.inl rfl) (pe_lst (pa_cons pe_int pa_nil)))
    (pss_cons (ps_for PassesOwn.never rfl (pi_range1 rfl T.range (pa_cons (pv 3) pa_nil)) (pg_name (i := 5) sc_law_waiting.nd rfl (Or.inl rfl)) (pss_cons (ps_set (i := 6) sc_law_waiting.nd rfl (Or.inl rfl) (pe_ix ix_list (pv 4) (pv 5) (fun _ _ => rfl)))
    (pss_cons (ps_for PassesOwn.never rfl (pi_range1 rfl T.range (pa_cons (pe_callB call_len_seq rfl T.len PySem.boot_len (pa_cons (pv 0) pa_nil)) pa_nil)) (pg_name (i := 7) sc_law_waiting.nd rfl (Or.inl rfl)) (pss_one (ps_for PassesOwn.never rfl (pi_list (pe_ix ix_list (pv 2) (pv 7) (fun _ _ => rfl))) (pg_name (i := 8) sc_law_waiting.nd rfl (Or.inl rfl)) (pss_one (ps_if (pt_cmpR op_eq (pe_ix ix_tup (pv 8) pe_int (fun _ _ => rfl)) (pv 5) (nomark _)) (pss_one (ps_set (i := 6) sc_law_waiting.nd rfl (Or.inl rfl) (pe_op op_add (pv 6) (pe_call C_law_cost.ok (hr.mono (by decide)) rfl C_law_cost.g C_law_cost.kp C_law_cost.b .nil pass0 (pa_cons (pe_ix ix_list (pv 0) (pv 7) (fun _ _ => rfl)) (pa_cons (pe_ix ix_tup (pv 8) pe_int (fun _ _ => rfl)) pa_nil)))))) pss_nil)))))
    (pss_one (ps_expr (pe_bm PySem.F.plainAttrs_list PySem.F.slot_list_append PySem.F.type_list_append mt_append (pv 4) (pa_cons (pe_callB (call_max2 rfl) rfl T.max boot_max (pa_cons pe_int (pa_cons (pe_op op_sub (pv 6) (pe_ix ix_list (pv 1) (pe_op op_mod (pe_callTy call_int1 rfl T.int boot_int (pa_cons (pv 5) pa_nil)) (pe_callB call_len_seq rfl T.len PySem.boot_len (pa_cons (pv 1) pa_nil))) (fun _ _ => rfl))) pa_nil))) pa_nil)))))))
    (pss_one (ps_ret (pv 4))))), ?_⟩
    have hsl := hsr.len
    generalize hf : NLM.slotAll ((ss.map fun s : Spc => s.2.1).zip LL) = F at q
    refine ⟨sz1, fun l hl => ?_⟩
    have hBl := Evl.fresh_back e hl
    walk_at "go"
    refine ⟨by omega, by omega, ?_⟩
    rw [Int.toNat_natCast]
    refine for_range (fun i σ' H' => Ex H H' ∧ H' l = some (.lst (((List.range (i + 1)).map (NLM.walk F tb)).map V.int)) ∧ ∃ u w x y, σ' = [some (.ref sa), some (.ref ta), some (.ref ra), some (.int (n : Int)), some (.ref l), u, w, x, y]) ⟨Ex.new hl, upd_same, _, _, _, _, rfl⟩ ?_ ?_
    · rintro i σ' H' hi ⟨e1, hHl, u, w, y, z, rfl⟩
      rw [show (0 : Int) + (i : Int) = (i : Int) from Int.zero_add _]
      have eB := e.trans e1
      have hwi : (((List.range (i + 1)).map (NLM.walk F tb)).map V.int)[i]? = some (.int (NLM.walk F tb i)) := by
        rw [List.getElem?_map, List.getElem?_map, List.getElem?_range (Nat.lt_succ_self i)] <;> rfl
      walk_at "go"
      refine ⟨l, _, _, _, rfl, rfl, SqL.of hHl, atI_of rfl hwi, ?_⟩
      refine ⟨_, rfl, sa, svs, rfl, .inl (ex_l eB hsa), ?_⟩
      walk_at "go"
      refine ⟨by omega, by omega, ?_⟩
      rw [Int.toNat_natCast, ← hsl]
      refine for_range (fun k σ2 H2 => Ex H H2 ∧ H2 l = some (.lst (((List.range (i + 1)).map (NLM.walk F tb)).map V.int)) ∧ ∃ y z, σ2 = [some (.ref sa), some (.ref ta), some (.ref ra), some (.int (n : Int)), some (.ref l), some (.int (i : Int)), some (.int (NLM.walk F tb i + (((((ss.map fun s : Spc => s.2.1).zip LL).take k).map fun p => NLM.slotWork p.1 p.2 (i : Int)).sum))), y, z]) ⟨e1, hHl, y, z, ?_⟩ ?_ ?_
      · rw [List.take_zero, List.map_nil, List.sum_nil, Int.add_zero]
        rfl
      · rintro k σ2 H2 hk ⟨e2, hHl2, y, z, rfl⟩
        rw [show (0 : Int) + (k : Int) = (k : Int) from Int.zero_add _]
        have eB2 := e.trans e2
        obtain ⟨s0, hs0⟩ : ∃ s0, ss[k]? = some s0 := ⟨_, List.getElem?_eq_getElem hk⟩
        obtain ⟨L0, hL0⟩ : ∃ L0, LL[k]? = some L0 := ⟨_, List.getElem?_eq_getElem (by omega)⟩
        obtain ⟨sv0, hsv0, hs0r⟩ := hsr.get hs0
        obtain ⟨lv0, hlv0, la, rfl, lvs, hla, hlr⟩ : ∃ lv0, rvs[k]? = some lv0 ∧ ∃ la, lv0 = .ref la ∧ ∃ lvs, SqL K B la lvs ∧ Pr (rRel K) B L0 lvs := by
          obtain ⟨lv0, h1, la, lvs, h2, h3, h4⟩ := hrr.get hL0
          exact ⟨lv0, h1, la, h2, lvs, h3, h4⟩
        have hzk : ((ss.map fun s : Spc => s.2.1).zip LL)[k]? = some (s0.2.1, L0) := by
          rw [List.getElem?_zip_eq_some, List.getElem?_map, hs0, hL0]
          exact ⟨rfl, rfl⟩
        generalize hbase : NLM.walk F tb i + (((((ss.map fun s : Spc => s.2.1).zip LL).take k).map fun p => NLM.slotWork p.1 p.2 (i : Int)).sum) = base
        walk_at "go"
        refine ⟨ra, rvs, _, _, rfl, rfl, ex_l eB2 hra, atI_of rfl hlv0, la, rfl, ⟨_, ex_l eB2 hla⟩, ?_⟩
        refine for_LR hla hlr (fun r σ3 H3 => Ex H H3 ∧ H3 l = some (.lst (((List.range (i + 1)).map (NLM.walk F tb)).map V.int)) ∧ ∃ z, σ3 = [some (.ref sa), some (.ref ta), some (.ref ra), some (.int (n : Int)), some (.ref l), some (.int (i : Int)), some (.int (base + ((L0.take r).map fun x => if x.1 = (i : Int) then NLM.costOf s0.2.1 x.2 else 0).sum)), some (.int (k : Int)), z]) ⟨e2, hHl2, z, ?_⟩ (fun r σ3 H3 ⟨e3, _⟩ => e.trans e3) ?_ ?_
        · rw [List.take_zero, List.map_nil, List.sum_nil, Int.add_zero]
          rfl
        · rintro r x v σ3 H3 hx ⟨xa, rfl, hxa⟩ ⟨e3, hHl3, z, rfl⟩
          have eB3 := e.trans e3
          have hxa' := ex_t eB3 hxa
          have hsum : ∀ c : Int, (if x.1 = (i : Int) then NLM.costOf s0.2.1 x.2 else 0) = c → ((L0.take (r + 1)).map fun x => if x.1 = (i : Int) then NLM.costOf s0.2.1 x.2 else 0).sum = ((L0.take r).map fun x => if x.1 = (i : Int) then NLM.costOf s0.2.1 x.2 else 0).sum + c := fun c hc => by
            rw [take_succ_get hx, List.map_append, List.sum_append]
            show _ + ((if x.1 = (i : Int) then NLM.costOf s0.2.1 x.2 else 0) + 0) = _
            rw [hc, Int.add_zero]
          walk_at "go"
          refine ited (fun c => ?_) (fun c => ?_)
          · injection c with c
            walk_at "go"
            refine ⟨sa, svs, _, _, rfl, rfl, ex_l eB3 hsa, atI_of rfl hsv0, ?_⟩
            walk_at "go"
            refine ⟨B, _, s0, x.2, rfl, eB3, hs0r, fun H4 e4 => ?_⟩
            walk_at "go"
            refine ⟨e3.trans e4, e4 _ _ hHl3, some (.ref xa), ?_⟩
            rw [hsum _ (if_pos c), ← Int.add_assoc]
            rfl
          · have c' : ¬ x.1 = (i : Int) := fun h => c (by rw [h])
            refine ⟨e3, hHl3, some (.ref xa), ?_⟩
            rw [hsum _ (if_neg c'), Int.add_zero]
            rfl
        · rintro σ3 H3 ⟨e3, hHl3, z, rfl⟩
          refine ⟨e3, hHl3, some (.int (k : Int)), z, ?_⟩
          rw [List.take_length, take_succ_get hzk, List.map_append, List.sum_append, ← hbase]
          show _ = [some (V.ref sa), some (V.ref ta), some (V.ref ra), some (V.int (n : Int)), some (V.ref l), some (V.int (i : Int)), some (V.int (NLM.walk F tb i + ((((((ss.map fun s : Spc => s.2.1).zip LL).take k).map fun p => NLM.slotWork p.1 p.2 (i : Int)).sum) + (NLM.slotWork s0.2.1 L0 (i : Int) + 0)))), _, _]
          rw [Int.add_zero, ← Int.add_assoc]
          rfl
      · rintro σ2 H2 ⟨e2, hHl2, y, z, rfl⟩
        have eB2 := e.trans e2
        have hzl : ((ss.map fun s : Spc => s.2.1).zip LL).length = ss.length := by rw [List.length_zip, List.length_map, hLL, Nat.min_self]
        rw [← hzl, List.take_length]
        have hsA : ((((ss.map fun s : Spc => s.2.1).zip LL).map fun p => NLM.slotWork p.1 p.2 (i : Int)).sum) = F i := by rw [← hf]; rfl
        rw [hsA]
        have hlt := Nat.mod_lt i (show tb.length > 0 by omega)
        have htg : (tb.map V.int)[i % tb.length]? = some (.int (NLM.cap tb i)) := by
          rw [List.getElem?_map, NLM.cap, List.getD_eq_getElem?_getD, List.getElem?_eq_getElem hlt] <;> rfl
        refine ⟨_, rfl, .inl ⟨rfl, _, SqL.of hHl2⟩, ?_⟩
        walk_at "ga"
        refine ⟨ta, _, rfl, .inl (ex_l eB2 hta), ?_⟩
        rw [List.length_map]
        walk_at "ga"
        refine ⟨by show (0 : Int) < (tb.length : Int); omega, ?_⟩
        refine ⟨ta, _, _, _, rfl, rfl, ex_l eB2 hta, atI_of (Int.natCast_emod i tb.length).symm htg, ?_⟩
        walk_at "go"
        refine ⟨_, _, rfl, ?_⟩
        have hb : ∀ y : Int, (if y > 0 then y else 0) = max 0 y := fun y => by
          by_cases h : y > 0
          · rw [if_pos h]; omega
          · rw [if_neg h]; omega
        rw [hb]
        refine ⟨l, _, _, rfl, rfl, hHl2, sz_lt (by rw [List.length_map, List.length_map, List.length_range]; omega), ?_⟩
        refine ⟨fun b o hb' => ?_, ?_, _, _, _, _, rfl⟩
        · rw [upd_ne (ne_of_none hb' hl)]
          exact e2 b o hb'
        · rw [upd_same, List.range_succ (n := i + 1), List.map_append, List.map_append]
          rfl
    · rintro σ' H' ⟨e1, hHl, u, w, y, z, rfl⟩
      exact ⟨_, rfl, q.go (((Sg.refl e).ext e1).keep hBl hl hHl) ⟨l, rfl, SqL.of upd_same⟩⟩
theorem ok_law {P : Program} {w : World} {K : PySem.W.Frag} {mg : Str → Option Value} {base : Heap} {CT CS CB : Addr} {f : Addr} {fd : FuncData} (F : Fun K "law" "law" s_law f fd) (T : Tx K mg CT CS CB) {C fI cc cda : Addr} (U : UnTxt P K mg C fI cc cda) {f_law_numbers : Addr} {fd_law_numbers : FuncData} {f_law_scaled : Addr} {fd_law_scaled : FuncData} {f_law_specs : Addr} {fd_law_specs : FuncData} {f_law_table : Addr} {fd_law_table : FuncData} {f_most_waiting : Addr} {fd_most_waiting : FuncData} {f_law_system : Addr} {fd_law_system : FuncData} {f_law_course : Addr} {fd_law_course : FuncData} {f_law_waiting : Addr} {fd_law_waiting : FuncData} {f_law_follows : Addr} {fd_law_follows : FuncData} (C_law_numbers : CalF P w K mg base "_law_numbers" 2 P_law_numbers (sp_law_numbers K) f_law_numbers fd_law_numbers) (C_law_scaled : CalF P w K mg base "_law_scaled" 1 P_law_scaled (sp_law_scaled K) f_law_scaled fd_law_scaled) (C_law_specs : CalF P w K mg base "_law_specs" 3 P_law_specs (sp_law_specs K) f_law_specs fd_law_specs) (C_law_table : CalF P w K mg base "_law_table" 1 P_law_table (sp_law_table K) f_law_table fd_law_table) (C_most_waiting : CalKX P w K mg base "most_waiting" 8 1 ["horizon"] P_most_waiting (sp_most_waiting K CT CS CB C) f_most_waiting fd_most_waiting) (C_law_system : CalF P w K mg base "_law_system" 5 P_law_system (sp_law_system K CT CS) f_law_system fd_law_system) (C_law_course : CalF P w K mg base "_law_course" 1 P_law_course (sp_law_course K) f_law_course fd_law_course) (C_law_waiting : CalF P w K mg base "_law_waiting" 2 P_law_waiting (sp_law_waiting K) f_law_waiting fd_law_waiting) (C_law_follows : CalF P w K mg base "_law_follows" 1 P_law_follows (sp_law_follows K) f_law_follows fd_law_follows) :
    FnOk P w K mg base (L2.CX P w) 9 f fd P_law (sp_law K) := by
  refine F.okX sc_law (fun vs H Q E h => ?_) (fun cdv A outer s H vs Q E hr h => ?_)
  · obtain ⟨sv, ns, rfl, _⟩ := h
    rfl
  · obtain ⟨sv, ns, rfl, hsv, q⟩ := h
    refine ⟨_, (pss_cons (ps_set (i := 1) sc_law.nd rfl (Or.inl rfl) (pe_call C_law_numbers.ok (hr.mono (by decide)) rfl C_law_numbers.g C_law_numbers.kp C_law_numbers.b .nil pass0 (pa_cons (pv 0) (pa_cons pe_int pa_nil))))
    (pss_cons (ps_set (i := 2) sc_law.nd rfl (Or.inr rfl) (pe_ix ix_list (pe_lst (pa_cons pe_int (pa_cons pe_int (pa_cons pe_int (pa_cons pe_int pa_nil))))) (pe_op op_mod (pe_callTy call_int1 rfl T.int boot_int (pa_cons (pe_ix ix_list (pv 1) pe_int (fun _ _ => rfl)) pa_nil)) pe_int) (fun _ _ => rfl)))
    (pss_cons (ps_set (i := 3) sc_law.nd rfl (Or.inl rfl) (pe_call C_law_scaled.ok (hr.mono (by decide)) rfl C_law_scaled.g C_law_scaled.kp C_law_scaled.b .nil pass0 (pa_cons (pe_call C_law_specs.ok (hr.mono (by decide)) rfl C_law_specs.g C_law_specs.kp C_law_specs.b .nil pass0 (pa_cons (pv 1) pa_nil)) (pa_cons (pv 2) pa_nil))))
    (pss_cons (ps_setLc (i := 4) (own := [("_law_capacity", 13)])  rfl sc_law.nd rfl rfl (sw_true rfl rfl rfl (by decide +kernel)) (pi_list (pe_call C_law_table.ok (hr.mono (by decide)) rfl C_law_table.g C_law_table.kp C_law_table.b .nil pass0 (pa_cons (pv 1) (pa_cons pe_int pa_nil)))) (blkOk_by (N := N_law) (sc := defScope s_law) (by decide +kernel)) (fun _ _ _ _ _ => pg_name (i := 13) sc_law.nd rfl (Or.inl rfl)) (fun _ _ _ _ _ => pts_nil) (fun _ _ _ _ _ => (pe_op op_add (pe_op op_mul (pv 13) (pv 2)) (pv 2))))
    (pss_cons (ps_set (i := 5) sc_law.nd rfl (Or.inl rfl) (pe_op op_add pe_int (pe_op op_mod (pe_callTy call_int1 rfl T.int boot_int (pa_cons (pe_ix ix_list (pv 1) pe_int (fun _ _ => rfl)) pa_nil)) pe_int)))
    (pss_cons (ps_try_as (i := 6) rfl rfl sc_law.nd rfl rfl ⟨rfl, by decide, Or.inl U.gC⟩ takes0 (fun W pn xe tk _ => (pss_one (ps_set (i := 10) sc_law.nd rfl (Or.inl rfl) (pe_callNS C_most_waiting.ok (hr.mono (by decide)) rfl C_most_waiting.g C_most_waiting.kp C_most_waiting.kb (fun σ => passAt tk σ) (pa_cons (pe_call C_law_system.ok (hr.mono (by decide)) rfl C_law_system.g C_law_system.kp C_law_system.b .nil pass0 (pa_cons (pv 3) (pa_cons (pv 4) pa_nil))) pa_nil) (pk_cons (pv 5) pk_nil))))) (fun a oe cls d pn hz hf => (pss_one (ps_ret (pe_cmpR op_eq (pe_xf U.xf U.noN hz hf (pv 6)) (pv 5) (nomark _))))))
    (PSs.nox (pss_cons (ps_set (i := 7) sc_law.nd rfl (Or.inl rfl) (pe_lst pa_nil))
    (pss_cons (ps_for PassesOwn.never rfl (pi_range1 rfl T.range (pa_cons (pe_callB call_len_seq rfl T.len PySem.boot_len (pa_cons (pv 3) pa_nil)) pa_nil)) (pg_name (i := 8) sc_law.nd rfl (Or.inl rfl)) (pss_one (ps_expr (pe_bm PySem.F.plainAttrs_list PySem.F.slot_list_append PySem.F.type_list_append mt_append (pv 7) (pa_cons (pe_call C_law_course.ok (hr.mono (by decide)) rfl C_law_course.g C_law_course.kp C_law_course.b .nil pass0 (pa_cons (pv 1) (pa_cons (pe_op op_add pe_int (pe_op op_mul pe_int (pv 8))) (pa_cons (pe_ix ix_tup (pe_ix ix_list (pv 3) (pv 8) (fun _ _ => rfl)) pe_int (fun _ _ => rfl)) (pa_cons (pe_ix ix_tup (pe_ix ix_list (pv 3) (pv 8) (fun _ _ => rfl)) pe_int (fun _ _ => rfl)) (pa_cons (pe_op op_add pe_int (pe_op op_mod (pe_callTy call_int1 rfl T.int boot_int (pa_cons (pe_ix ix_list (pv 1) (pe_op op_add pe_int (pv 8)) (fun _ _ => rfl)) pa_nil)) pe_int)) pa_nil)))))) pa_nil)))))
    (pss_cons (ps_if (pt_cmpR op_gt (pe_callB (cr_max rfl) rfl T.max boot_max (pa_cons (pe_call C_law_waiting.ok (hr.mono (by decide)) rfl C_law_waiting.g C_law_waiting.kp C_law_waiting.b .nil pass0 (pa_cons (pv 3) (pa_cons (pv 4) (pa_cons (pv 7) (pa_cons pe_int pa_nil))))) pa_nil)) (pe_fld (pv 10) rfl) (nomark _)) (pss_one (ps_ret pe_bl)) pss_nil)
    (pss_cons (ps_if (PW.pt (pw_or (pt_not (pt_val (pe_callB RZ.call_isTy rfl T.isinstance boot_isinstance (pa_cons (pe_fld (pv 10) rfl) (pa_cons (pe_bltn (v := .ty "list") rfl T.list boot_list rfl) pa_nil))))) (pw_or1 (pt_cmpR op_ne (pe_callB call_len_seq rfl T.len PySem.boot_len (pa_cons (pe_fld (pv 10) rfl) pa_nil)) (pe_callB call_len_seq rfl T.len PySem.boot_len (pa_cons (pv 3) pa_nil)) (nomark _))))) (pss_one (ps_ret pe_bl)) pss_nil)
    (pss_cons (ps_for PassesOwn.never rfl (pi_range1 rfl T.range (pa_cons (pe_callB call_len_seq rfl T.len PySem.boot_len (pa_cons (pv 3) pa_nil)) pa_nil)) (pg_name (i := 8) sc_law.nd rfl (Or.inl rfl)) (pss_cons (ps_set (i := 11) sc_law.nd rfl (Or.inl rfl) (pe_ix ix_list (pe_fld (pv 10) rfl) (pv 8) (fun _ _ => rfl)))
    (pss_one (ps_for PassesOwn.never rfl (pi_range1 rfl T.range (pa_cons (pe_callB call_len_seq rfl T.len PySem.boot_len (pa_cons (pv 11) pa_nil)) pa_nil)) (pg_name (i := 12) sc_law.nd rfl (Or.inl rfl)) (pss_cons (ps_if (PW.pt (pw_or (pt_cmpR op_lt (pe_ix ix_tup (pe_ix ix_list (pv 11) (pv 12) (fun _ _ => rfl)) pe_int (fun _ _ => rfl)) (pe_fld (pv 10) rfl) (nomark _)) (pw_or1 (pt_cmpR op_notIn_seq (pe_ix ix_tup (pe_ix ix_list (pv 11) (pv 12) (fun _ _ => rfl)) pe_int (fun _ _ => rfl)) (pe_lc (own := [("_law_kind", 14)])  rfl sc_law.nd  (pi_list (pe_ix ix_tup (pe_ix ix_list (pv 3) (pv 8) (fun _ _ => rfl)) pe_int (fun _ _ => rfl))) (blkOk_by (N := N_law) (sc := defScope s_law) (by decide +kernel)) (fun _ _ _ _ _ => pg_name (i := 14) sc_law.nd rfl (Or.inl rfl)) (fun _ _ _ _ _ => pts_nil) (fun _ _ _ _ _ => (pe_ix (ix_tupK K) (pv 14) pe_int (fun _ _ => rfl)))) rfl)))) (pss_one (ps_ret pe_bl)) pss_nil)
    (pss_one (ps_if (PW.pt (pw_and (pt_cmpR op_gt (pv 12) pe_int (nomark _)) (pw_and1 (pt_not (pt_val (pe_call C_law_follows.ok (hr.mono (by decide)) rfl C_law_follows.g C_law_follows.kp C_law_follows.b .nil pass0 (pa_cons (pe_ix ix_list (pv 3) (pv 8) (fun _ _ => rfl)) (pa_cons (pe_ix ix_list (pv 11) (pe_op op_sub (pv 12) pe_int) (fun _ _ => rfl)) (pa_cons (pe_ix ix_list (pv 11) (pv 12) (fun _ _ => rfl)) pa_nil))))))))) (pss_one (ps_ret pe_bl)) pss_nil)))))))
    (pss_cons (ps_if (pt_not (pt_chain op_le op_le pe_int (pe_fld (pv 10) rfl) (pv 5))) (pss_one (ps_ret pe_bl)) pss_nil)
    (pss_cons (ps_set (i := 9) sc_law.nd rfl (Or.inl rfl) (pe_call C_law_waiting.ok (hr.mono (by decide)) rfl C_law_waiting.g C_law_waiting.kp C_law_waiting.b .nil pass0 (pa_cons (pv 3) (pa_cons (pv 4) (pa_cons (pe_fld (pv 10) rfl) (pa_cons (pe_fld (pv 10) rfl) pa_nil))))))
    (pss_one (ps_ret (pe_cmpR op_eq (pe_ix ix_list (pv 9) (pe_fld (pv 10) rfl) (fun _ _ => rfl)) (pe_fld (pv 10) rfl) (nomark _)))))))))))))))))), ?_⟩
    refine ⟨_, rfl, H, sv, ns, 110, rfl, Ex.refl _, hsv, by omega, fun xs hxs v1 N1 H1 G1 r1 => ?_⟩
    obtain ⟨na, rfl, hna⟩ := id r1
    have hna1 := ex_l G1.eH hna
    obtain ⟨a0, a1, a2⟩ := hxs.at 105 (by omega)
    obtain ⟨b0, b1, b2⟩ := hxs.at 50 (by omega)
    have hfac : ∃ f : Nat, 1 ≤ f ∧ f ≤ 240 ∧ atI [V.int 1, V.int 1, V.int 17, V.int 240] (xs.getD 105 0 % 4) = some (.int (f : Int)) := by
      have h4 : xs.getD 105 0 % 4 = 0 ∨ xs.getD 105 0 % 4 = 1 ∨ xs.getD 105 0 % 4 = 2 ∨ xs.getD 105 0 % 4 = 3 := by omega
      rcases h4 with h | h | h | h <;> rw [h]
      · exact ⟨1, by decide, by decide, rfl⟩
      · exact ⟨1, by decide, by decide, rfl⟩
      · exact ⟨17, by decide, by decide, rfl⟩
      · exact ⟨240, by decide, by decide, rfl⟩
    obtain ⟨fc, hf1, hf2, hfat⟩ := hfac
    refine ⟨szs (by simp), fun p hp => ?_⟩
    have G2 := G1.new (o := .lst [V.int 1, V.int 1, V.int 17, V.int 240]) hp
    have e12 := ex_upd (o := .lst [V.int 1, V.int 1, V.int 17, V.int 240]) (G1.free hp).1
    have hnaN2 := ex_l e12 hna
    have hna2 := ex_l G2.eH hnaN2
    walk_at "ga"
    refine ⟨na, _, _, _, rfl, rfl, hna2, atI_of rfl a0, ?_⟩
    walk_at "ga"
    refine ⟨p, _, _, _, rfl, rfl, SqL.of upd_same, hfat, ?_⟩
    refine ⟨_, rfl, _, _, xs, rfl, G2.eH, ⟨na, rfl, hnaN2⟩, hxs, fun ss0 hss0 v3 N3 H3 G3 r3 => ?_⟩
    refine ⟨_, rfl, N3, v3, ss0, fc, rfl, G3.eH, r3, hss0, hf1, hf2, fun v4 N4 H4 G4 r4 => ?_⟩
    have G04 := (G2.trans G3).trans G4
    have e24 := G3.eN.trans G4.eN
    refine ⟨_, rfl, N4, _, xs, 44, rfl, G4.eH, ⟨na, rfl, ex_l e24 hnaN2⟩, hxs, by omega, fun tb0 ht1 ht2 ht3 v5 N5 H5 G5 r5 => ?_⟩
    obtain ⟨ta0, rfl, hta0⟩ := r5
    have G05 := G04.trans G5
    refine ⟨ta0, rfl, ⟨_, ex_l G5.eH hta0⟩, ?_⟩
    refine lc_LRd mono_I G05 hta0 (Pr.of_ints tb0) (fun _ => true) (fun c => c * (fc : Int) + (fc : Int)) (by omega) ?_ ?_
    · intro x v N' H' hx hv eN G Nn Y hn hy
      cases hv
      have hx3 := ht3 x hx
      refine ⟨rfl, ?_⟩
      walk_at "go"
      refine ⟨.inl ⟨by omega, by omega⟩, ?_⟩
      walk_at "go"
      exact hy rfl _ _ _ (Sg.refl G.eH) rfl
    · intro tbA N6 H6 eN6 G06 r6
      rw [filtT] at r6
      have r6 : LI K (tb0.map (fun c => c * (fc : Int) + (fc : Int))) (.ref tbA) N6 := LI.of r6
      obtain ⟨hok, hssl1, hssl2, htbl1, htbl2⟩ := scaled_ok hss0 hf1 hf2 ht1 ht2 ht3
      generalize tb0.map (fun c => c * (fc : Int) + (fc : Int)) = tb at r6 hok htbl1 htbl2
      generalize ss0.map (scaleS fc) = ss at r4 hok hssl1 hssl2
      obtain ⟨sa, svs, rfl, hsa, hsr⟩ := id r4
      have hsl := hsr.len
      have e46 := G5.eN.trans eN6
      have hna6 := ex_l (((e24.trans e46).trans G06.eH)) hnaN2
      obtain ⟨hz, hhz, hz1⟩ : ∃ hz : Nat, 16 + xs.getD 50 0 % 9 = (hz : Int) ∧ hz ≤ 24 := ⟨(16 + xs.getD 50 0 % 9).toNat, by omega, by omega⟩
      walk_at "go"
      refine ⟨na, _, _, _, rfl, rfl, hna6, atI_of rfl b0, ?_⟩
      walk_at "ga"
      dsimp only
      rw [hhz]
      have hne : ss.map tkOf ≠ [] := fun h => by rw [List.map_eq_nil_iff.mp h] at hssl1; exact absurd hssl1 (by decide)
      refine ⟨N6, _, _, ss, tb, rfl, G06.eH, mono_LR mono_Spec _ _ _ _ e46 r4, r6, hok, fun v8 N8 H8 G8 r8 => ?_⟩
      refine ⟨_, rfl, rfl, rfl, ?_⟩
      refine ⟨N8, v8, ss.map tkOf, tb, hz, rfl, G8.eH, r8, hok, hne, by omega, fun H' d e' hd => ?_, fun M it st LL hB v9 N9 H9 G9 r9 => ?_⟩
      · refine ⟨true, U.te, fun _ a ha => ?_, fun h => by cases h⟩
        refine ⟨_, rfl, rfl, rfl, d, _, _, rfl, upd_same, rfl, _, rfl, rfl, ?_⟩
        show Q (.bl (decide (V.int (hz : Int) = V.int (hz : Int)))) _
        rw [decide_eq_true rfl]
        exact q.go (((G06.e0.trans G8.e0).trans e').trans (Ex.new hd))
      obtain ⟨bp, bdx, bfs, rv, rfl, hbp, w1, w2, w3, w4, la, lvs, rfl, hla, hlr⟩ := r9
      have G09 := (G06.trans G8).trans G9
      have hB' := hB
      obtain ⟨_, hBit, hBM, ⟨hBl, hBn⟩, _⟩ := hB'
      rw [List.length_map] at hBl
      have hlvl := hlr.len
      have e49 := (e46.trans G8.eN).trans G9.eN
      have e29 := e24.trans e49
      have e69 := G8.eN.trans G9.eN
      refine ⟨sz0, fun l hl => ?_⟩
      obtain ⟨hNl, hHl⟩ := G09.free hl
      have G10 := G09.mut (o := .lst []) hNl hHl
      refine ⟨_, rfl, sa, svs, rfl, .inl (ex_l (e49.trans G10.eH) hsa), ?_⟩
      walk_at "go"
      refine ⟨by omega, by omega, ?_⟩
      rw [Int.toNat_natCast, ← hsl]
      refine for_range (fun k σ' H' => ∃ N', Ex N9 N' ∧ Sg H H N' H' ∧ N' l = none ∧ (∃ vs LD, H' l = some (.lst vs) ∧ Pr (LR K (rRel K)) N' LD vs ∧ LD.length = k ∧ ∀ (i : Nat) (s : Spc) (L : List (Int × Str)), ss[i]? = some s → LD[i]? = some L → NLM.Legal (s.2.1.map fun k : K3 => k.1) s.2.2 L) ∧
        ∃ u6 u8 u9 u11 u12 u13 u14, σ' = [some sv, some (.ref na), some (.int (fc : Int)), some (.ref sa), some (.ref tbA), some (.int (hz : Int)), u6, some (.ref l), u8, u9, some (.ref bp), u11, u12, u13, u14])
        ⟨N9, Ex.refl _, G10, hNl, ⟨[], [], upd_same, .nil, rfl, fun i s L _ h => by simp at h⟩, _, _, _, _, _, _, _, rfl⟩ ?_ ?_
      · rintro k σ' H' hk ⟨N', eN, G, hN'l, ⟨vs, LD, hH'l, hpr, hLDl, hLD⟩, u6, u8, u9, u11, u12, u13, u14, rfl⟩
        rw [show (0 : Int) + (k : Int) = (k : Int) from Int.zero_add _]
        obtain ⟨s0, hs0⟩ : ∃ s0, ss[k]? = some s0 := ⟨_, List.getElem?_eq_getElem hk⟩
        obtain ⟨sv0, hsv0, xa, kv, wv, rfl, hxa, hkr, hwr⟩ := hsr.get hs0
        obtain ⟨c0, c1, c2⟩ := hxs.at (52 + k) (by omega)
        have e4N := e49.trans eN
        have e4H := e4N.trans G.eH
        have hsaH := ex_l e4H hsa
        have hxaH := ex_t e4H hxa
        have hnaH := ex_l ((e29.trans eN).trans G.eH) hnaN2
        have okT := hok.t (tkOf s0) (List.mem_map_of_mem (List.mem_of_getElem? hs0))
        refine ⟨_, rfl, .inl ⟨rfl, _, SqL.of hH'l⟩, ?_⟩
        walk_at "ga"
        refine ⟨sa, svs, _, _, rfl, rfl, hsaH, atI_of rfl hsv0, ?_⟩
        walk_at "ga"
        refine ⟨sa, svs, _, _, rfl, rfl, hsaH, atI_of rfl hsv0, ?_⟩
        walk_at "ga"
        refine ⟨na, _, _, _, rfl, rfl, hnaH, atI_of (by omega) c0, ?_⟩
        walk_at "ga"
        refine ⟨N', _, xs, 60 + 22 * k, kv, s0.2.1, wv, s0.2.2, (1 + xs.getD (52 + k) 0 % 9).toNat, ?_, G.eH, ⟨na, rfl, ex_l (e29.trans eN) hnaN2⟩, hxs, by omega, mono_LR mono_K3 _ _ _ _ e4N hkr, mono_LR mono_W3 _ _ _ _ e4N hwr, okT.k.ne, okT.w, by omega, by omega, fun L hL hpos hlen v N2 H2 G2 r2 => ?_⟩
        · show [V.ref na, V.int (60 + 22 * (k : Int)), kv, wv, V.int (1 + xs.getD (52 + k) 0 % 9)] = _
          rw [show 60 + 22 * (k : Int) = ((60 + 22 * k : Nat) : Int) by omega, Int.toNat_of_nonneg (by omega)]
        obtain ⟨hN2l, hH2l⟩ := G2.away hN'l hH'l
        have hvl := hpr.len
        refine ⟨l, _, _, rfl, rfl, hH2l, sz_lt (by omega), ?_⟩
        refine ⟨N2, eN.trans G2.eN, (G.trans G2).mut hN2l hHl, hN2l, ⟨_, LD ++ [L], upd_same, Pr.snoc r2 (Pr.mono (mono_LR mono_Rel) G2.eN hpr), by rw [List.length_append, hLDl]; rfl, fun i s L' hi hi' => ?_⟩, _, _, _, _, _, _, _, rfl⟩
        rw [List.getElem?_append] at hi'
        by_cases c : i < LD.length
        · rw [if_pos c] at hi'
          exact hLD i s L' hi hi'
        · rw [if_neg c] at hi'
          have hj0 : i - LD.length = 0 := by
            cases hz : i - LD.length with
            | zero => rfl
            | succ z => rw [hz] at hi'; simp at hi'
          rw [hj0] at hi'
          cases hi'
          have hik : i = k := by omega
          rw [hik, hs0] at hi
          cases hi
          exact hL
      · rintro σ' H' ⟨N', eN, G, hN'l, ⟨vs, LD, hH'l, hpr, hLDl, hLD⟩, u6, u8, u9, u11, u12, u13, u14, rfl⟩
        have Gk := G.keep hN'l hHl hH'l
        have ek := ex_upd (o := .lst vs) hN'l
        have e4k := (e49.trans eN).trans ek
        have e9k := eN.trans ek
        refine ⟨_, rfl, _, rfl, _, rfl, _, .ref sa, .ref tbA, .ref l, ss, tb, LD, 90, rfl, Gk.eH, mono_LR mono_Spec _ _ _ _ e4k r4, mono_LI _ _ _ _ (e69.trans e9k) r6, ⟨l, vs, rfl, SqL.of upd_same, Pr.mono (mono_LR mono_Rel) ek hpr⟩, hLDl, by omega, htbl1, by omega, by decide, fun v11 N11 H11 G11 r11 => ?_⟩
        obtain ⟨wa, rfl, hwa⟩ := r11
        have e9H := (e9k.trans G11.eN).trans G11.eH
        have e4H := (e4k.trans G11.eN).trans G11.eH
        have hbH := e9H _ _ hbp
        have hlaH := e9H _ _ hla
        have hlrH := Pr.mono (mono_LR mono_Rel) e9H hlr
        have hsaH := ex_l e4H hsa
        have hsrH := Pr.mono mono_Spec e4H hsr
        have tbH : LI K tb (.ref tbA) H11 := mono_LI _ _ _ _ (e69.trans e9H) r6
        have e011 : Ex H H11 := Gk.e0.trans G11.e0
        refine ⟨wa, _, rfl, ex_l G11.eH hwa, by rw [List.length_map, List.length_range]; decide, fun m hm hle => ?_⟩
        have hmM : m ≤ M := by
          obtain ⟨t, ht, rfl⟩ := List.mem_map.mp hm
          exact waiting_le hok hB hLDl hLD t
        refine ⟨_, rfl, bp, CB, bdx, bfs, _, rfl, hbH, T.clBacklog, T.naBacklog_work, w1, ?_⟩
        walk_at "go"
        refine ited (fun c => absurd hmM (Int.not_le.mpr c)) (fun c => ?_)
        refine ⟨_, rfl, bp, CB, bdx, bfs, _, rfl, hbH, T.clBacklog, T.naBacklog_releases, w4, _, _, rfl, .lst hlaH, _, rfl, ?_⟩
        refine ⟨_, rfl, bp, CB, bdx, bfs, _, rfl, hbH, T.clBacklog, T.naBacklog_releases, w4, la, lvs, rfl, .inl (SqL.of hlaH), ?_⟩
        refine ⟨_, rfl, sa, svs, rfl, .inl hsaH, rfl, _, rfl, ?_⟩
        refine itend (fun c2 => absurd (by rw [← hlvl, ← hsl, hBl]) c2) (fun _ => ?_)
        refine ⟨_, rfl, sa, svs, rfl, .inl hsaH, ?_⟩
        walk_at "go"
        refine ⟨by omega, by omega, ?_⟩
        rw [Int.toNat_natCast, ← hsl]
        refine for_range (fun k σ2 H2 => Ex H11 H2 ∧ ∃ u6 u8 u9 u11 u12 u13 u14, σ2 = [some sv, some (.ref na), some (.int (fc : Int)), some (.ref sa), some (.ref tbA), some (.int (hz : Int)), u6, some (.ref l), u8, u9, some (.ref bp), u11, u12, u13, u14]) ⟨Ex.refl _, _, _, _, _, _, _, _, rfl⟩ ?_ ?_
        · rintro k σ2 H2 hk ⟨e2, u6, u8, u9, u11, u12, u13, u14, rfl⟩
          rw [show (0 : Int) + (k : Int) = (k : Int) from Int.zero_add _]
          obtain ⟨s0, hs0⟩ : ∃ s0, ss[k]? = some s0 := ⟨_, List.getElem?_eq_getElem hk⟩
          obtain ⟨L0, hL0⟩ : ∃ L0, LL[k]? = some L0 := ⟨_, List.getElem?_eq_getElem (by omega)⟩
          obtain ⟨sv0, hsv0, hs0r⟩ := hsrH.get hs0
          obtain ⟨xa, kv, wv, rfl, hxa, ⟨ka, kvs, rfl, hka, hkr⟩, hwr⟩ := id hs0r
          obtain ⟨lv0, hlv0, lb, rvs, rfl, hlb, hlbr⟩ := hlrH.get hL0
          obtain ⟨hleg, hge⟩ := back_legal hB hs0 hL0
          refine ⟨_, rfl, bp, CB, bdx, bfs, _, rfl, e2 _ _ hbH, T.clBacklog, T.naBacklog_releases, w4, _, rfl, la, lvs, _, _, rfl, rfl, SqL.of (e2 _ _ hlaH), atI_of rfl hlv0, ?_⟩
          refine ⟨_, rfl, lb, rvs, rfl, .inl (ex_l e2 hlb), ?_⟩
          have hrl := hlbr.len
          have hL1000 := hBn L0 (List.mem_of_getElem? hL0)
          have okT := hok.t (tkOf s0) (List.mem_map_of_mem (List.mem_of_getElem? hs0))
          have hkl8 : s0.2.1.length ≤ 8 := okT.k.le
          walk_at "go"
          refine ⟨by omega, by omega, ?_⟩
          rw [Int.toNat_natCast, ← hrl]
          refine for_range (fun at' σ3 H3 => Ex H11 H3 ∧ ∃ u12 u14, σ3 = [some sv, some (.ref na), some (.int (fc : Int)), some (.ref sa), some (.ref tbA), some (.int (hz : Int)), u6, some (.ref l), some (.int (k : Int)), u9, some (.ref bp), some (.ref lb), u12, u13, u14]) ⟨e2, _, _, rfl⟩ ?_ ?_
          · rintro i σ3 H3 hi ⟨e3, u12, u14, rfl⟩
            rw [show (0 : Int) + (i : Int) = (i : Int) from Int.zero_add _]
            obtain ⟨x0, hx0⟩ : ∃ x0, L0[i]? = some x0 := ⟨_, List.getElem?_eq_getElem hi⟩
            obtain ⟨xv0, hxv0, ra0, rfl, hra0⟩ := hlbr.get hx0
            have hlb3 := ex_l e3 hlb
            have hra3 := ex_t e3 hra0
            have hxa3 := ex_t e3 hxa
            have hge0 := hge x0 (List.mem_of_getElem? hx0)
            have hsa3 := ex_l e3 hsaH
            refine ⟨_, rfl, _, rfl, lb, rvs, _, _, rfl, rfl, hlb3, atI_of rfl hxv0, ?_⟩
            walk_at "go"
            refine ⟨bp, CB, bdx, bfs, _, rfl, e3 _ _ hbH, T.clBacklog, T.naBacklog_start, w3, ?_⟩
            walk_at "go"
            refine ited (fun c => absurd hge0 (Int.not_le.mpr c)) (fun _ => ?_)
            refine ⟨_, rfl, _, rfl, lb, rvs, _, _, rfl, rfl, hlb3, atI_of rfl hxv0, ?_⟩
            walk_at "go"
            refine ⟨sa, svs, _, _, rfl, rfl, hsa3, atI_of rfl hsv0, ?_⟩
            walk_at "go"
            refine ⟨⟨_, ex_l e3 hka⟩, ?_⟩
            refine lc_LRd (S := rS) mono_S (Sg.self H3) (ex_l e3 hka) (Pr.mono mono_K3 e3 hkr) (fun _ => true) (fun k => k.1) (by omega) ?_ ?_
            · rintro k' v N' H' hk' ⟨ya, hv, hya⟩ eN G
              subst hv
              intro Nn Y hn hy
              have hya' := ex_t (eN.trans G.eH) hya
              refine ⟨rfl, ?_⟩
              walk_at "go"
              exact hy rfl _ _ _ (Sg.refl G.eH) rfl
            · intro D N' H' eN G r
              rw [filtT] at r
              obtain ⟨da, hD, hda⟩ := LS.of r
              cases hD
              have e3' := e3.trans G.e0
              refine ⟨D, _, rfl, .inl (ex_l G.eH hda), rfl, flat_strs _, ?_⟩
              rw [inV_strs (legal_mem hleg hx0)]
              refine ⟨_, rfl, ?_⟩
              walk_at "go"
              refine ited (fun c => ?_) (fun _ => ⟨e3', _, _, rfl⟩)
              have hi1 : 1 ≤ i := by omega
              obtain ⟨x1, hx1⟩ : ∃ x1, L0[i - 1]? = some x1 := ⟨_, List.getElem?_eq_getElem (by omega)⟩
              obtain ⟨xv1, hxv1, ra1, rfl, hra1⟩ := hlbr.get hx1
              have hfol := legal_follows hleg (i := i - 1) hx1 (by rw [show i - 1 + 1 = i by omega]; exact hx0)
              have hlb4 := ex_l e3' hlb
              refine ⟨_, rfl, _, rfl, sa, svs, _, _, rfl, rfl, ex_l e3' hsaH, atI_of rfl hsv0, ?_⟩
              walk_at "go"
              refine ⟨lb, rvs, _, _, rfl, rfl, hlb4, atI_of (by omega) hxv1, ?_⟩
              walk_at "go"
              refine ⟨lb, rvs, _, _, rfl, rfl, hlb4, atI_of rfl hxv0, ?_⟩
              refine ⟨H11, _, s0, _, x1, _, x0, rfl, e3', hs0r, ⟨ra1, rfl, hra1⟩, ⟨ra0, rfl, hra0⟩, hfol, fun H4 e4 => ⟨_, rfl, ?_⟩⟩
              exact ⟨e3'.trans e4, _, _, rfl⟩
          · rintro σ3 H3 ⟨e3, u12, u14, rfl⟩
            exact ⟨e3, _, _, _, _, _, _, _, rfl⟩
        · rintro σ2 H2 ⟨e2, u6, u8, u9, u11, u12, u13, u14, rfl⟩
          refine ⟨_, rfl, bp, CB, bdx, bfs, _, rfl, e2 _ _ hbH, T.clBacklog, T.naBacklog_instant, w2, ?_⟩
          walk_at "go"
          rw [decide_eq_true (show (it : Int) ≤ (hz : Int) by omega)]
          refine ⟨_, rfl, _, rfl, _, rfl, bp, CB, bdx, bfs, _, rfl, e2 _ _ hbH, T.clBacklog, T.naBacklog_releases, w4, _, rfl, bp, CB, bdx, bfs, _, rfl, e2 _ _ hbH, T.clBacklog, T.naBacklog_instant, w2, ?_⟩
          refine ⟨H2, .ref sa, .ref tbA, .ref la, ss, tb, LL, it, rfl, Ex.refl _, ⟨sa, svs, rfl, ex_l e2 hsaH, Pr.mono mono_Spec e2 hsrH⟩, mono_LI _ _ _ _ e2 tbH, ⟨la, lvs, rfl, SqL.of (e2 _ _ hlaH), Pr.mono (mono_LR mono_Rel) e2 hlrH⟩, hBl, by omega, htbl1, by omega, by omega, fun v12 N12 H12 G12 r12 => ?_⟩
          obtain ⟨wb, rfl, hwb⟩ := r12
          have hgw : (((List.range (it + 1)).map (NLM.walk (NLM.slotAll ((ss.map fun s : Spc => s.2.1).zip LL)) tb)).map V.int)[it]? = some (.int M) := by
            rw [List.getElem?_map, List.getElem?_map, List.getElem?_range (Nat.lt_succ_self it)]
            show some (V.int (NLM.walk _ tb it)) = _
            rw [back_waiting hok hB]
          have hb12 := (e2.trans G12.e0) _ _ hbH
          refine ⟨_, rfl, _, rfl, bp, CB, bdx, bfs, _, rfl, hb12, T.clBacklog, T.naBacklog_instant, w2, wb, _, _, _, rfl, rfl, ex_l G12.eH hwb, atI_of rfl hgw, ?_⟩
          refine ⟨_, rfl, bp, CB, bdx, bfs, _, rfl, hb12, T.clBacklog, T.naBacklog_work, w1, rfl, ?_⟩
          show Q (.bl (decide (V.int M = V.int M))) _
          rw [decide_eq_true rfl]
          exact q.go ((e011.trans e2).trans G12.e0)
end NL
set_option Elab.async false
set_option linter.all false
set_option maxRecDepth 100000
set_option maxHeartbeats 0
namespace NL
open PySem PySem.Spec PyProof.Rows L2
/-! ### what stands behind the top -/
def fnA (K : PySem.W.Frag) (a : Addr) : He.FnW := match K.lookup a with
  | some ⟨_, _, .func fd, _⟩ => some (fd.name, fd.qualname, fd.params, fd.body, fd.scope, fd.globals, fd.closure, fd.builtins)
  | _ => none
def noneB : Value → Bool
  | .none => true
  | _ => false
def okA (K : PySem.W.Frag) (a : Addr) (q : Str) : Bool := PySem.W.keepIn K (.ref a) && (match K.lookup a with
  | some ⟨_, _, .func fd, _⟩ => PySem.W.codeIn K fd.code q && noneB fd.defaults
  | _ => false)
structure Df where
  at_ : PySem.W.Frag → Addr
  name : Str
  qual : Str
  st : Stmt
def Df.val (d : Df) : He.FnW := some (d.name, d.qual, defArgs d.st, .stmts (defBody d.st), defScope d.st, mainGlobals, [], builtinsNs)
theorem Df.fun_ {K : PySem.W.Frag} {d : Df} (e : fnA K (d.at_ K) = d.val) (c : okA K (d.at_ K) d.qual = true) : ∃ fd, Fun K d.name d.qual d.st (d.at_ K) fd := by
  obtain ⟨kp, c2⟩ := He.ba c
  unfold fnA at e
  cases q : K.lookup (d.at_ K) with
  | none =>
    rw [q] at c2
    cases c2
  | some o =>
    obtain ⟨oc, od, dt, osl⟩ := o
    rw [q] at c2 e
    cases dt with
    | func fd =>
      obtain ⟨n1, n2, n3, n4, n5, n6, n7, n8, n9, n10, n11, n12, n13, n14, n15⟩ := fd
      have e2 : (some (n1, n2, n3, n4, n5, n6, n7, n15) : He.FnW) = some (d.name, d.qual, defArgs d.st, .stmts (defBody d.st), defScope d.st, mainGlobals, [], builtinsNs) := e
      simp only [Option.some.injEq, Prod.mk.injEq] at e2
      obtain ⟨h1, h2, h3, h4, h5, h6, h7, h8⟩ := e2
      subst h1 h2 h3 h4 h5 h6 h7 h8
      obtain ⟨k1, k2⟩ := He.ba (show (PySem.W.codeIn K n13 d.qual && noneB n8) = true from c2)
      cases n8 with
      | none => exact ⟨_, ⟨oc, od, n9, n10, n11, n12, n13, n14, osl, rfl, q, k1⟩, kp⟩
      | _ => cases k2
    | _ => cases c2
theorem kb_of {K : PySem.W.Frag} {x qual : Str} {st : Stmt} {f : Addr} {fd : FuncData} (F : Fun K x qual st f fd) (ps : List Str) (n : Nat) (ks : List Str)
    (h : ∀ (kV doc pm : Value) (an : Option Addr) (cdv ct : Value) (us ws : List Value), us.length = n → ws.length = ks.length → bindArgs (PySem.W.fnOf x qual (defArgs st) (defBody st) (defScope st) .none kV doc pm an cdv ct) ⟨us, ks.zip ws⟩ = pure (ps.zip (us ++ ws))) : KBn K fd ps n ks app2 app2 := by
  obtain ⟨oc, od, kV, doc, pm, an, cdv, ct, osl, rfl, lk, hcd⟩ := F.ex
  exact ⟨fun s us ws _ l1 l2 => .of_eq (h kV doc pm an cdv ct us ws l1 l2), fun r1 r2 => r1.append r2⟩
theorem binds_any {K : PySem.W.Frag} {x qual : Str} {st : Stmt} {f : Addr} {fd : FuncData} {ps : List Str} (F : Fun K x qual st f fd)
    (h : ∀ (kV doc pm : Value) (an : Option Addr) (cdv ct : Value) (us : List Value), us.length = ps.length → bindArgs (PySem.W.fnOf x qual (defArgs st) (defBody st) (defScope st) .none kV doc pm an cdv ct) ⟨us, []⟩ = pure (ps.zip us)) (s : Shared) (us : List Value) (hl : us.length = ps.length) : BindsTo s fd ⟨us, []⟩ (ps.zip us) := by
  obtain ⟨oc, od, kV, doc, pm, an, cdv, ct, osl, rfl, lk, hcd⟩ := F.ex
  exact .of_eq (h kV doc pm an cdv ct us hl)
/-- a property's object, its getter -/
def pgA (K : PySem.W.Frag) (C m : Str) : Addr := match PySem.W.recIn K (He.ma K (He.ga K C) m) "property" with
  | some (.ref g :: _) => g
  | _ => 0
def propB (K : PySem.W.Frag) (C m : Str) : Bool := He.eqO (PySem.W.findIn K (.ref (He.ga K C)) m) (some (some (.ref (He.ma K (He.ga K C) m)))) && (He.eqO (PySem.W.specialIn K (.ref (He.ma K (He.ga K C) m)) "__get__") (some (some (.builtin "property.__get__"))) &&
  (decide (PySem.W.takesIn K (.ref (He.ma K (He.ga K C) m)) = some true) && (match PySem.W.recIn K (He.ma K (He.ga K C) m) "property" with
  | some (.ref _ :: _) => true
  | _ => false)))
theorem propB_ok {K : PySem.W.Frag} {C m : Str} (c : propB K C m = true) : PropOf K (He.ga K C) m (He.ma K (He.ga K C) m) (pgA K C m) := by
  obtain ⟨c1, c⟩ := He.ba c
  obtain ⟨c2, c⟩ := He.ba c
  obtain ⟨c3, c4⟩ := He.ba c
  refine ⟨He.eqO_ok c1, He.eqO_ok c2, of_decide_eq_true c3, ?_⟩
  unfold pgA
  cases q : PySem.W.recIn K (He.ma K (He.ga K C) m) "property" with
  | none =>
    rw [q] at c4
    cases c4
  | some l =>
    rw [q] at c4
    cases l with
    | nil => cases c4
    | cons v r =>
      cases v with
      | ref g => exact ⟨r, rfl⟩
      | _ => cases c4
/-! ### Undecided -/
abbrev unC (K : PySem.W.Frag) : Addr := He.ga K "Undecided"
abbrev unF (K : PySem.W.Frag) : Addr := He.ma K (unC K) "__init__"
def unCc (K : PySem.W.Frag) : Addr := match K.lookup (unF K) with
  | some ⟨_, _, .func fd, _⟩ => (match fd.closure with
    | [(_, c)] => c
    | _ => 0)
  | _ => 0
def unCd (K : PySem.W.Frag) : Addr := match K.lookup (unF K) with
  | some ⟨_, _, .func fd, _⟩ => (match fd.code with
    | .ref c => c
    | _ => 0)
  | _ => 0
def unA (K : PySem.W.Frag) : He.FnW := match K.lookup (unF K) with
  | some ⟨_, _, .func fd, _⟩ => (match fd.closure with
    | [(x, _)] => some (fd.name, fd.qualname, fd.params, fd.body, fd.scope, fd.globals, [(x, 0)], fd.builtins)
    | _ => none)
  | _ => none
def unVal : He.FnW := some ("__init__", "Undecided.__init__", defArgs sUndecI, .stmts (defBody sUndecI), defScope sUndecI, mainGlobals, [("__class__", 0)], builtinsNs)
def unClsB (K : PySem.W.Frag) : Bool := match K.lookup (unC K) with
  | some ⟨.type "type", _, .cls ⟨_, _, .ref C' :: bm, _, _, true, _, _, _, _, false⟩, ⟨[_, _, _, _, some (.builtin n), _]⟩⟩ => decide (C' = unC K) && (decide (n = "ValueError.__new__") && PySem.HandSPX.refsVE bm)
  | _ => false
def unFnB (K : PySem.W.Frag) : Bool := match K.lookup (unF K) with
  | some ⟨_, _, .func fd, _⟩ => (match fd.code with
    | .ref c => PySem.W.codeIn K (.ref c) "Undecided.__init__" && noneB fd.defaults
    | _ => false)
  | _ => false
def unCodeB (file : Str) (K : PySem.W.Frag) : Bool := match K.lookup (unCd K) with
  | some ⟨_, _, .fields vs, _⟩ => (match (vs[2]? : Option Value) with
    | some (Value.str f _) => file == f
    | _ => false)
  | _ => false
def unCellB (K : PySem.W.Frag) : Bool := match K.lookup (unCc K) with
  | some ⟨_, _, .cell (some (.ref c)), _⟩ => decide (c = unC K)
  | _ => false
def unBs (file : Str) (K : PySem.W.Frag) : List Bool := [unClsB K, He.eqO (PySem.W.findIn K (.ref (unC K)) "__setattr__") (some (some (.builtin "object.__setattr__"))), He.eqO (PySem.W.findIn K (.ref (unC K)) "__getattribute__") (some (some (.builtin "BaseException.__getattribute__"))),
  He.eqO (PySem.W.findIn K (.ref (unC K)) "__getattr__") (some none), He.eqO (PySem.W.findIn K (.ref (unC K)) "horizon") (some none), He.eqO (PySem.W.findIn K (.ref (unC K)) "__init__") (some (some (.ref (unF K)))), decide (PySem.W.typeIn K (.ref (unF K)) = some (.type "function")),
  PySem.W.keepIn K (.ref (unC K)), decide (PySem.W.subIn K (.ref (unC K)) (.type "BaseException") = some true), decide (PySem.W.subIn K (.ref (unC K)) (.type "ValueError") = some true), decide (PySem.W.typeIn K (.ref (unC K)) = some (.type "type")), PySem.W.hasDictIn K (unC K),
  decide (PySem.W.exmOne K (.ref (unC K)) (.ref (unC K)) = some true), He.eqO (PySem.W.ks_superIn K (unC K) (unC K) "__init__") (some (some (.builtin "ValueError.__init__"))), He.eqO (PySem.W.nsIn K cStatics "thirdparty.any") (some none), decide (PySem.W.mroIn K (unC K) (.ref (unC K)) = some true),
  unFnB K, unCodeB file K, unCellB K]
theorem un_txt {P : Program} {K : PySem.W.Frag} {mg : Str → Option Value} (gC : mg "Undecided" = some (.ref (unC K))) (noS : mg "super" = none) (top : (P.main.scope.names.lookup ("super" : Str)).isSome = false) (hA : unA K = unVal) (hB : (unBs P.main.file K).all id = true) :
    UnTxt P K mg (unC K) (unF K) (unCc K) (unCd K) := by
  have hb : ∀ (i : Nat) (b : Bool), (unBs P.main.file K)[i]? = some b → b = true := fun i b h => List.all_eq_true.mp hB b (List.mem_of_getElem? h)
  have b16 := hb 16 _ rfl
  have b17 := hb 17 _ rfl
  have b18 := hb 18 _ rfl
  refine ⟨gC, noS, ?_, He.eqO_ok (hb 1 _ rfl), He.eqO_ok (hb 2 _ rfl), He.eqO_ok (hb 3 _ rfl), He.eqO_ok (hb 4 _ rfl), He.eqO_ok (hb 5 _ rfl), of_decide_eq_true (hb 6 _ rfl), hb 7 _ rfl, of_decide_eq_true (hb 8 _ rfl), of_decide_eq_true (hb 9 _ rfl), of_decide_eq_true (hb 10 _ rfl), hb 11 _ rfl, of_decide_eq_true (hb 12 _ rfl), He.eqO_ok (hb 13 _ rfl), He.eqO_ok (hb 14 _ rfl), of_decide_eq_true (hb 15 _ rfl), ?_, ?_, ?_, top⟩
  · have b0 := hb 0 _ rfl
    unfold unClsB at b0
    split at b0
    · rename_i dd nm bs C' bm N q sn sub ab col k0 k1 k2 k3 n k5 hl
      obtain ⟨c1, c⟩ := He.ba b0
      obtain ⟨c2, c3⟩ := He.ba c
      have c1 := of_decide_eq_true c1
      have c2 := of_decide_eq_true c2
      subst c1 c2
      exact ⟨nm, q, N, bs, bm, sn, sub, ab, col, dd, k0, k1, k2, k3, k5, hl, c3⟩
    · cases b0
  · unfold unFnB at b16
    unfold unA at hA
    unfold unCc unCd
    cases q : K.lookup (unF K) with
    | none =>
      rw [q] at b16
      cases b16
    | some o =>
      obtain ⟨oc, od, dt, osl⟩ := o
      rw [q] at b16 hA
      cases dt with
      | func fd =>
        obtain ⟨n1, n2, n3, n4, n5, n6, n7, n8, n9, n10, n11, n12, n13, n14, n15⟩ := fd
        dsimp only at b16 hA ⊢
        cases n13 with
        | ref cd =>
          dsimp only at b16
          obtain ⟨c1, c2⟩ := He.ba b16
          cases n8 with
          | none =>
            cases n7 with
            | nil => cases hA
            | cons p r =>
              cases r with
              | cons p2 r2 => cases hA
              | nil =>
                obtain ⟨px, pc⟩ := p
                dsimp only at hA
                simp only [unVal, Option.some.injEq, Prod.mk.injEq, List.cons.injEq] at hA
                obtain ⟨h1, h2, h3, h4, h5, h6, ⟨⟨h7, _⟩, _⟩, h8⟩ := hA
                subst h1 h2 h3 h4 h5 h6 h7 h8
                exact ⟨oc, od, n9, n10, n11, n12, n14, osl, rfl, c1⟩
          | _ => cases c2
        | _ => cases b16
      | _ => cases b16
  · unfold unCodeB at b17
    cases q : K.lookup (unCd K) with
    | none =>
      rw [q] at b17
      cases b17
    | some o =>
      obtain ⟨oc, od, dt, osl⟩ := o
      rw [q] at b17
      cases dt with
      | fields vs =>
        dsimp only at b17
        cases q2 : vs[2]? with
        | none =>
          rw [q2] at b17
          cases b17
        | some v =>
          rw [q2] at b17
          cases v with
          | str f t => exact ⟨oc, od, vs, osl, f, t, rfl, q2, b17⟩
          | _ => cases b17
      | _ => cases b17
  · unfold unCellB at b18
    cases q : K.lookup (unCc K) with
    | none =>
      rw [q] at b18
      cases b18
    | some o =>
      obtain ⟨oc, od, dt, osl⟩ := o
      rw [q] at b18
      cases dt with
      | cell v =>
        cases v with
        | none => cases b18
        | some v =>
          cases v with
          | ref c =>
            have e : c = unC K := of_decide_eq_true b18
            subst e
            exact ⟨oc, od, osl, rfl⟩
          | _ => cases b18
      | _ => cases b18
/-! ### the Hook -/
abbrev Al : Type := Bool × List He.FnW
def obsN (fa : List He.Fa) (fn : List Df) (ex : PySem.W.Frag → Bool) (K : PySem.W.Frag) : Al := ((fa.all fun f => f.ok K) && ((fn.all fun d => okA K (d.at_ K) d.qual) && ex K), unA K :: fn.map fun d => fnA K (d.at_ K))
def valN (fn : List Df) : Al := (true, unVal :: fn.map Df.val)
def SaysN (fa : List He.Fa) (fn : List Df) (ex : PySem.W.Frag → Bool) (K : PySem.W.Frag) : Prop := obsN fa fn ex K = valN fn
def asN (g : Addr → Option Obj) : List Addr := He.asD g 5 ++ [cStatics]
def obsNG (fa : List He.Fa) (fn : List Df) (ex : PySem.W.Frag → Bool) (g : Addr → Option Obj) : Al := obsN fa fn ex (He.frG g (asN g))
def hookN (fa : List He.Fa) (fn : List Df) (ex : PySem.W.Frag → Bool) : PySem.W.Hook where
  α := Al
  obs := fun s => obsNG fa fn ex s.heap.get?
  val := fun _ => valN fn
  says := fun _ h => ∃ K : PySem.W.Frag, K.In h ∧ SaysN fa fn ex K
  of := fun _ _ e => ⟨_, He.frG_in, e⟩
  keeps := fun _ _ _ ⟨K, hK, c⟩ k => ⟨K, PySem.W.Frag.In.keeps hK k, c⟩
theorem obsNG_eq {fa : List He.Fa} {fn : List Df} {ex : PySem.W.Frag → Bool} {g : Addr → Option Obj} {s : Shared} (h : ∀ a, g a = s.heap.get? a) : obsNG fa fn ex g = (hookN fa fn ex).obs s := by
  have e : g = s.heap.get? := funext h
  rw [e] <;> rfl
section
variable {fa : List He.Fa} {fn : List Df} {ex : PySem.W.Frag → Bool} {K : PySem.W.Frag}
theorem SaysN.bs (c : SaysN fa fn ex K) : (fa.all fun f => f.ok K) = true ∧ (fn.all fun d => okA K (d.at_ K) d.qual) = true ∧ ex K = true := by
  have c0 : ((fa.all fun f => f.ok K) && ((fn.all fun d => okA K (d.at_ K) d.qual) && ex K)) = true := congrArg (fun z : Al => z.1) c
  obtain ⟨c1, c2⟩ := He.ba c0
  obtain ⟨c3, c4⟩ := He.ba c2
  exact ⟨c1, c3, c4⟩
theorem SaysN.fact (c : SaysN fa fn ex K) (i : Nat) {f : He.Fa} (h : fa[i]? = some f := by rfl) : f.ok K = true := List.all_eq_true.mp c.bs.1 f (List.mem_of_getElem? h)
theorem SaysN.un (c : SaysN fa fn ex K) : unA K = unVal := (List.cons.inj (congrArg (fun z : Al => z.2) c)).1
theorem SaysN.def_ (c : SaysN fa fn ex K) (i : Nat) {d : Df} (h : fn[i]? = some d := by rfl) : ∃ fd, Fun K d.name d.qual d.st (d.at_ K) fd := by
  have e : fn.map (fun d => fnA K (d.at_ K)) = fn.map Df.val := (List.cons.inj (congrArg (fun z : Al => z.2) c)).2
  have e2 : (fn.map fun d => fnA K (d.at_ K))[i]? = (fn.map Df.val)[i]? := by rw [e]
  rw [List.getElem?_map, List.getElem?_map, h] at e2
  exact Df.fun_ (Option.some.inj e2) (List.all_eq_true.mp c.bs.2.1 d (List.mem_of_getElem? h))
end
def fn : List Df := [⟨fun K => He.ga K "own_work", "own_work", "own_work", s_own_work⟩,
  ⟨fun K => He.ma K (He.ga K "Task") "kind_number", "kind_number", "Task.kind_number", s_Task_kind_number⟩,
  ⟨fun K => He.ma K (He.ga K "Task") "ways_from", "ways_from", "Task.ways_from", s_Task_ways_from⟩,
  ⟨fun K => He.ga K "best_continuation", "best_continuation", "best_continuation", s_best_continuation⟩,
  ⟨fun K => He.ga K "rows", "rows", "rows", s_rows⟩,
  ⟨fun K => He.ga K "demands", "demands", "demands", s_demands⟩,
  ⟨fun K => He.ga K "system_demands", "system_demands", "system_demands", s_system_demands⟩,
  ⟨fun K => He.ga K "best_step", "best_step", "best_step", s_best_step⟩,
  ⟨fun K => He.ga K "heaviest", "heaviest", "heaviest", s_heaviest⟩,
  ⟨fun K => pgA K "Task" "latest_deadline", "latest_deadline", "Task.latest_deadline", s_Task_latest_deadline⟩,
  ⟨fun K => He.ga K "greatest_deadline", "greatest_deadline", "greatest_deadline", s_greatest_deadline⟩,
  ⟨fun K => pgA K "Task" "longest_distance", "longest_distance", "Task.longest_distance", s_Task_longest_distance⟩,
  ⟨fun K => He.ga K "greatest_distance", "greatest_distance", "greatest_distance", s_greatest_distance⟩,
  ⟨fun K => He.ga K "row_growth", "row_growth", "row_growth", s_row_growth⟩,
  ⟨fun K => He.ga K "come_round", "come_round", "come_round", s_come_round⟩,
  ⟨fun K => He.ga K "rounds", "rounds", "rounds", s_rounds⟩,
  ⟨fun K => He.ga K "supply_of_first", "supply_of_first", "supply_of_first", s_supply_of_first⟩,
  ⟨fun K => He.ga K "supply", "supply", "supply", s_supply⟩,
  ⟨fun K => He.ga K "is_name", "is_name", "is_name", s_is_name⟩,
  ⟨fun K => He.ga K "are_kinds", "are_kinds", "are_kinds", s_are_kinds⟩,
  ⟨fun K => He.ga K "are_ways", "are_ways", "are_ways", s_are_ways⟩,
  ⟨fun K => He.ga K "is_table", "is_table", "is_table", s_is_table⟩,
  ⟨fun K => He.ma K (He.ga K "Task") "__init__", "__init__", "Task.__init__", s_Task_init⟩,
  ⟨fun K => He.ma K (He.ga K "System") "__init__", "__init__", "System.__init__", s_System_init⟩,
  ⟨fun K => He.ma K (He.ga K "Backlog") "__init__", "__init__", "Backlog.__init__", s_Backlog_init⟩,
  ⟨fun K => He.ga K "eager_task", "eager_task", "eager_task", s_eager_task⟩,
  ⟨fun K => He.ga K "eager", "eager", "eager", s_eager⟩,
  ⟨fun K => He.ga K "moved", "moved", "moved", s_moved⟩,
  ⟨fun K => He.ga K "most_waiting", "most_waiting", "most_waiting", s_most_waiting⟩,
  ⟨fun K => He.ga K "_law_row", "_law_row", "_law_row", s_law_row⟩,
  ⟨fun K => He.ga K "_law_numbers", "_law_numbers", "_law_numbers", s_law_numbers⟩,
  ⟨fun K => He.ga K "_law_name", "_law_name", "_law_name", s_law_name⟩,
  ⟨fun K => He.ga K "_law_table", "_law_table", "_law_table", s_law_table⟩,
  ⟨fun K => He.ga K "_law_kinds", "_law_kinds", "_law_kinds", s_law_kinds⟩,
  ⟨fun K => He.ga K "_law_ways", "_law_ways", "_law_ways", s_law_ways⟩,
  ⟨fun K => He.ga K "_law_specs", "_law_specs", "_law_specs", s_law_specs⟩,
  ⟨fun K => He.ga K "_law_scaled", "_law_scaled", "_law_scaled", s_law_scaled⟩,
  ⟨fun K => He.ga K "_law_system", "_law_system", "_law_system", s_law_system⟩,
  ⟨fun K => He.ga K "_law_course", "_law_course", "_law_course", s_law_course⟩,
  ⟨fun K => He.ga K "_law_follows", "_law_follows", "_law_follows", s_law_follows⟩,
  ⟨fun K => He.ga K "_law_cost", "_law_cost", "_law_cost", s_law_cost⟩,
  ⟨fun K => He.ga K "_law_waiting", "_law_waiting", "_law_waiting", s_law_waiting⟩,
  ⟨fun K => He.ga K "law", "law", "law", s_law⟩]
def fa : List He.Fa := [.free "len", .free "range", .free "max", .free "sum", .free "all", .free "tuple", .free "list", .free "int", .free "abs", .free "divmod", .free "enumerate", .free "isinstance", .free "str", .free "super", .str "NAME_CHARS" "abcdefghijklmnopqrstuvwxyz0123456789", .int "MOST_NAME_CHARS" 12, .int "MOST_KINDS" 8, .int "MOST_WAYS" 16, .int "MOST_COST" 1000, .int "MOST_DEADLINE" 1000, .int "MOST_DISTANCE" 1000, .int "MOST_TASKS" 6, .int "MOST_SLOTS" 1001, .int "MOST_CAPACITY" 1000000, .glo "Task", .cls "Task", .noat "Task" "name", .noat "Task" "kinds", .noat "Task" "ways", .glo "System", .cls "System", .noat "System" "tasks", .noat "System" "table", .glo "Backlog", .cls "Backlog", .noat "Backlog" "work", .noat "Backlog" "instant", .noat "Backlog" "start", .noat "Backlog" "releases", .glo "own_work", .glo "best_continuation", .glo "rows", .glo "demands", .glo "system_demands", .glo "best_step", .glo "heaviest", .glo "greatest_deadline", .glo "greatest_distance", .glo "row_growth", .glo "come_round", .glo "rounds", .glo "supply_of_first", .glo "supply", .glo "is_name", .glo "are_kinds", .glo "are_ways", .glo "is_table", .glo "eager_task", .glo "eager", .glo "moved", .glo "most_waiting", .glo "_law_row", .glo "_law_numbers", .glo "_law_name", .glo "_law_table", .glo "_law_kinds", .glo "_law_ways", .glo "_law_specs", .glo "_law_scaled", .glo "_law_system", .glo "_law_course", .glo "_law_follows", .glo "_law_cost", .glo "_law_waiting", .glo "law", .meth "Task" "kind_number", .meth "Task" "ways_from", .mkr "Task", .mkr "System", .mkr "Backlog", .glo "Undecided"]
def pFile : Str := PySem.Challenge.pw_neverlate_k71_whole_waiting.main.file
def exL (K : PySem.W.Frag) : List Bool := propB K "Task" "longest_distance" :: propB K "Task" "latest_deadline" :: unBs pFile K
def ex (K : PySem.W.Frag) : Bool := (exL K).all id
theorem gint {mg : Str → Option Value} {x : Str} {i : Int} (h : ∃ t, mg x = some (.int i t)) : ∃ u, mg x = some u ∧ RelV (.int i) u := by
  obtain ⟨t, e⟩ := h
  exact ⟨_, e, t, rfl⟩
theorem gstr {mg : Str → Option Value} {x : Str} {z : Str} (h : ∃ t, mg x = some (.str z t)) : ∃ u, mg x = some u ∧ RelV (.str z) u := by
  obtain ⟨t, e⟩ := h
  exact ⟨_, e, t, rfl⟩
abbrev thP : Program := PySem.Challenge.pw_neverlate_k71_whole_waiting
theorem facts {w : World} {K : PySem.W.Frag} {h : Heap} {mg : Str → Option Value} {f : Addr} (X : K.In h) (G : h.Ns mainGlobals mg) (hfa : mg ("law" : Str) = some (.ref f)) (c : SaysN fa fn ex K) :
    ∃ fd : FuncData, (∀ (s : Shared) (v : Value), BindsTo s fd ⟨[v], []⟩ [("_law_script", v)]) ∧ ∀ base : Heap, FnOk thP w K mg base (L2.CX thP w) 9 f fd P_law (sp_law K) := by
  have hx : ∀ b ∈ exL K, id b = true := List.all_eq_true.mp c.bs.2.2
  have hB : (unBs thP.main.file K).all id = true := List.all_eq_true.mpr fun b hb => hx b (List.mem_cons_of_mem _ (List.mem_cons_of_mem _ hb))
  have T : Tx K mg (He.ga K "Task") (He.ga K "System") (He.ga K "Backlog") := ⟨He.free_ok X G (c.fact 0), He.free_ok X G (c.fact 1), He.free_ok X G (c.fact 2), He.free_ok X G (c.fact 3), He.free_ok X G (c.fact 4), He.free_ok X G (c.fact 5), He.free_ok X G (c.fact 6), He.free_ok X G (c.fact 7), He.free_ok X G (c.fact 8), He.free_ok X G (c.fact 9), He.free_ok X G (c.fact 10), He.free_ok X G (c.fact 11), He.free_ok X G (c.fact 12), gstr (He.str_ok X G (c.fact 14)), gint (He.int_ok X G (c.fact 15)), gint (He.int_ok X G (c.fact 16)), gint (He.int_ok X G (c.fact 17)), gint (He.int_ok X G (c.fact 18)), gint (He.int_ok X G (c.fact 19)), gint (He.int_ok X G (c.fact 20)), gint (He.int_ok X G (c.fact 21)), gint (He.int_ok X G (c.fact 22)), gint (He.int_ok X G (c.fact 23)), He.glo_ok X G (c.fact 24), He.cls_ok (c.fact 25), He.noat_ok (c.fact 26), He.noat_ok (c.fact 27), He.noat_ok (c.fact 28), He.glo_ok X G (c.fact 29), He.cls_ok (c.fact 30), He.noat_ok (c.fact 31), He.noat_ok (c.fact 32), He.glo_ok X G (c.fact 33), He.cls_ok (c.fact 34), He.noat_ok (c.fact 35), He.noat_ok (c.fact 36), He.noat_ok (c.fact 37), He.noat_ok (c.fact 38)⟩
  have U : UnTxt thP K mg (unC K) (unF K) (unCc K) (unCd K) := un_txt (He.glo_ok X G (c.fact 80)) (He.free_ok X G (c.fact 13)) (by decide +kernel) c.un hB
  obtain ⟨fdL, FL⟩ := c.def_ 42 (d := ⟨fun K => He.ga K "law", "law", "law", s_law⟩) rfl
  have e := hfa.symm.trans (He.glo_ok X G (c.fact 74))
  cases e
  refine ⟨fdL, fun s v => binds_any FL (ps := ["_law_script"]) (fun _ _ _ _ _ _ us hl => match us, hl with | [_], _ => rfl) s [v] rfl, fun base => ?_⟩
  suffices h : ∀ fd, Fun K "law" "law" s_law (He.ga K "law") fd → FnOk thP w K mg base (L2.CX thP w) 9 (He.ga K "law") fd P_law (sp_law K) from h _ FL
  intro fd_law F_law
  obtain ⟨fd_own_work, F_own_work⟩ := c.def_ 0 (d := ⟨fun K => He.ga K "own_work", "own_work", "own_work", s_own_work⟩) rfl
  have O_own_work := ok_own_work (P := thP) (w := w) (base := base) F_own_work T 
  have B_own_work : Binds K fd_own_work P_own_work [] := F_own_work.binds fun _ _ _ _ _ _ us hl => match us, hl with | [_, _], _ => rfl
  have C_own_work : CalF thP w K mg base "own_work" 1 P_own_work (sp_own_work K) (He.ga K "own_work") fd_own_work := ⟨He.glo_ok X G (c.fact 39), F_own_work.kp, O_own_work, B_own_work⟩
  obtain ⟨fd_Task_kind_number, F_Task_kind_number⟩ := c.def_ 1 (d := ⟨fun K => He.ma K (He.ga K "Task") "kind_number", "kind_number", "Task.kind_number", s_Task_kind_number⟩) rfl
  have O_Task_kind_number := ok_Task_kind_number (P := thP) (w := w) (base := base) F_Task_kind_number T 
  have B_Task_kind_number : Binds K fd_Task_kind_number P_Task_kind_number [] := F_Task_kind_number.binds fun _ _ _ _ _ _ us hl => match us, hl with | [_, _], _ => rfl
  have C_Task_kind_number : CalM thP w K mg base (He.ga K "Task") "kind_number" 1 P_Task_kind_number (sp_Task_kind_number K (He.ga K "Task")) (He.ma K (He.ga K "Task") "kind_number") fd_Task_kind_number := ⟨He.meth_ok (c.fact 75), O_Task_kind_number, B_Task_kind_number⟩
  obtain ⟨fd_Task_ways_from, F_Task_ways_from⟩ := c.def_ 2 (d := ⟨fun K => He.ma K (He.ga K "Task") "ways_from", "ways_from", "Task.ways_from", s_Task_ways_from⟩) rfl
  have O_Task_ways_from := ok_Task_ways_from (P := thP) (w := w) (base := base) F_Task_ways_from T C_Task_kind_number
  have B_Task_ways_from : Binds K fd_Task_ways_from P_Task_ways_from [] := F_Task_ways_from.binds fun _ _ _ _ _ _ us hl => match us, hl with | [_, _], _ => rfl
  have C_Task_ways_from : CalM thP w K mg base (He.ga K "Task") "ways_from" 2 P_Task_ways_from (sp_Task_ways_from K (He.ga K "Task")) (He.ma K (He.ga K "Task") "ways_from") fd_Task_ways_from := ⟨He.meth_ok (c.fact 76), O_Task_ways_from, B_Task_ways_from⟩
  obtain ⟨fd_best_continuation, F_best_continuation⟩ := c.def_ 3 (d := ⟨fun K => He.ga K "best_continuation", "best_continuation", "best_continuation", s_best_continuation⟩) rfl
  have O_best_continuation := ok_best_continuation (P := thP) (w := w) (base := base) F_best_continuation T C_Task_ways_from C_Task_kind_number
  have B_best_continuation : Binds K fd_best_continuation P_best_continuation [] := F_best_continuation.binds fun _ _ _ _ _ _ us hl => match us, hl with | [_, _, _, _], _ => rfl
  have C_best_continuation : CalF thP w K mg base "best_continuation" 3 P_best_continuation (sp_best_continuation K (He.ga K "Task")) (He.ga K "best_continuation") fd_best_continuation := ⟨He.glo_ok X G (c.fact 40), F_best_continuation.kp, O_best_continuation, B_best_continuation⟩
  obtain ⟨fd_rows, F_rows⟩ := c.def_ 4 (d := ⟨fun K => He.ga K "rows", "rows", "rows", s_rows⟩) rfl
  have O_rows := ok_rows (P := thP) (w := w) (base := base) F_rows T C_own_work C_best_continuation
  have B_rows : Binds K fd_rows P_rows [] := F_rows.binds fun _ _ _ _ _ _ us hl => match us, hl with | [_, _], _ => rfl
  have C_rows : CalF thP w K mg base "rows" 4 P_rows (sp_rows K (He.ga K "Task")) (He.ga K "rows") fd_rows := ⟨He.glo_ok X G (c.fact 41), F_rows.kp, O_rows, B_rows⟩
  obtain ⟨fd_demands, F_demands⟩ := c.def_ 5 (d := ⟨fun K => He.ga K "demands", "demands", "demands", s_demands⟩) rfl
  have O_demands := ok_demands (P := thP) (w := w) (base := base) F_demands T C_rows
  have B_demands : Binds K fd_demands P_demands [] := F_demands.binds fun _ _ _ _ _ _ us hl => match us, hl with | [_, _], _ => rfl
  have C_demands : CalF thP w K mg base "demands" 5 P_demands (sp_demands K (He.ga K "Task")) (He.ga K "demands") fd_demands := ⟨He.glo_ok X G (c.fact 42), F_demands.kp, O_demands, B_demands⟩
  obtain ⟨fd_system_demands, F_system_demands⟩ := c.def_ 6 (d := ⟨fun K => He.ga K "system_demands", "system_demands", "system_demands", s_system_demands⟩) rfl
  have O_system_demands := ok_system_demands (P := thP) (w := w) (base := base) F_system_demands T C_demands
  have B_system_demands : Binds K fd_system_demands P_system_demands [] := F_system_demands.binds fun _ _ _ _ _ _ us hl => match us, hl with | [_, _], _ => rfl
  have C_system_demands : CalF thP w K mg base "system_demands" 6 P_system_demands (sp_system_demands K (He.ga K "Task") (He.ga K "System")) (He.ga K "system_demands") fd_system_demands := ⟨He.glo_ok X G (c.fact 43), F_system_demands.kp, O_system_demands, B_system_demands⟩
  obtain ⟨fd_best_step, F_best_step⟩ := c.def_ 7 (d := ⟨fun K => He.ga K "best_step", "best_step", "best_step", s_best_step⟩) rfl
  have O_best_step := ok_best_step (P := thP) (w := w) (base := base) F_best_step T C_Task_ways_from C_Task_kind_number
  have B_best_step : Binds K fd_best_step P_best_step [] := F_best_step.binds fun _ _ _ _ _ _ us hl => match us, hl with | [_, _, _, _], _ => rfl
  have C_best_step : CalF thP w K mg base "best_step" 3 P_best_step (sp_best_step K (He.ga K "Task")) (He.ga K "best_step") fd_best_step := ⟨He.glo_ok X G (c.fact 44), F_best_step.kp, O_best_step, B_best_step⟩
  obtain ⟨fd_heaviest, F_heaviest⟩ := c.def_ 8 (d := ⟨fun K => He.ga K "heaviest", "heaviest", "heaviest", s_heaviest⟩) rfl
  have O_heaviest := ok_heaviest (P := thP) (w := w) (base := base) F_heaviest T C_rows C_best_step
  have B_heaviest : Binds K fd_heaviest P_heaviest [] := F_heaviest.binds fun _ _ _ _ _ _ us hl => match us, hl with | [_, _], _ => rfl
  have C_heaviest : CalF thP w K mg base "heaviest" 5 P_heaviest (sp_heaviest K (He.ga K "Task")) (He.ga K "heaviest") fd_heaviest := ⟨He.glo_ok X G (c.fact 45), F_heaviest.kp, O_heaviest, B_heaviest⟩
  obtain ⟨fd_Task_latest_deadline, F_Task_latest_deadline⟩ := c.def_ 9 (d := ⟨fun K => pgA K "Task" "latest_deadline", "latest_deadline", "Task.latest_deadline", s_Task_latest_deadline⟩) rfl
  have O_Task_latest_deadline := ok_Task_latest_deadline (P := thP) (w := w) (base := base) F_Task_latest_deadline T 
  have B_Task_latest_deadline : Binds K fd_Task_latest_deadline P_Task_latest_deadline [] := F_Task_latest_deadline.binds fun _ _ _ _ _ _ us hl => match us, hl with | [_], _ => rfl
  have C_Task_latest_deadline : CalP thP w K mg base (He.ga K "Task") "latest_deadline" 2 P_Task_latest_deadline (sp_Task_latest_deadline K (He.ga K "Task")) (He.ma K (He.ga K "Task") "latest_deadline") (pgA K "Task" "latest_deadline") fd_Task_latest_deadline := ⟨propB_ok (hx _ (List.mem_cons_of_mem _ List.mem_cons_self)), O_Task_latest_deadline, B_Task_latest_deadline⟩
  obtain ⟨fd_greatest_deadline, F_greatest_deadline⟩ := c.def_ 10 (d := ⟨fun K => He.ga K "greatest_deadline", "greatest_deadline", "greatest_deadline", s_greatest_deadline⟩) rfl
  have O_greatest_deadline := ok_greatest_deadline (P := thP) (w := w) (base := base) F_greatest_deadline T C_Task_latest_deadline
  have B_greatest_deadline : Binds K fd_greatest_deadline P_greatest_deadline [] := F_greatest_deadline.binds fun _ _ _ _ _ _ us hl => match us, hl with | [_], _ => rfl
  have C_greatest_deadline : CalF thP w K mg base "greatest_deadline" 4 P_greatest_deadline (sp_greatest_deadline K (He.ga K "Task") (He.ga K "System")) (He.ga K "greatest_deadline") fd_greatest_deadline := ⟨He.glo_ok X G (c.fact 46), F_greatest_deadline.kp, O_greatest_deadline, B_greatest_deadline⟩
  obtain ⟨fd_Task_longest_distance, F_Task_longest_distance⟩ := c.def_ 11 (d := ⟨fun K => pgA K "Task" "longest_distance", "longest_distance", "Task.longest_distance", s_Task_longest_distance⟩) rfl
  have O_Task_longest_distance := ok_Task_longest_distance (P := thP) (w := w) (base := base) F_Task_longest_distance T 
  have B_Task_longest_distance : Binds K fd_Task_longest_distance P_Task_longest_distance [] := F_Task_longest_distance.binds fun _ _ _ _ _ _ us hl => match us, hl with | [_], _ => rfl
  have C_Task_longest_distance : CalP thP w K mg base (He.ga K "Task") "longest_distance" 2 P_Task_longest_distance (sp_Task_longest_distance K (He.ga K "Task")) (He.ma K (He.ga K "Task") "longest_distance") (pgA K "Task" "longest_distance") fd_Task_longest_distance := ⟨propB_ok (hx _ List.mem_cons_self), O_Task_longest_distance, B_Task_longest_distance⟩
  obtain ⟨fd_greatest_distance, F_greatest_distance⟩ := c.def_ 12 (d := ⟨fun K => He.ga K "greatest_distance", "greatest_distance", "greatest_distance", s_greatest_distance⟩) rfl
  have O_greatest_distance := ok_greatest_distance (P := thP) (w := w) (base := base) F_greatest_distance T C_Task_longest_distance
  have B_greatest_distance : Binds K fd_greatest_distance P_greatest_distance [] := F_greatest_distance.binds fun _ _ _ _ _ _ us hl => match us, hl with | [_], _ => rfl
  have C_greatest_distance : CalF thP w K mg base "greatest_distance" 4 P_greatest_distance (sp_greatest_distance K (He.ga K "Task") (He.ga K "System")) (He.ga K "greatest_distance") fd_greatest_distance := ⟨He.glo_ok X G (c.fact 47), F_greatest_distance.kp, O_greatest_distance, B_greatest_distance⟩
  obtain ⟨fd_row_growth, F_row_growth⟩ := c.def_ 13 (d := ⟨fun K => He.ga K "row_growth", "row_growth", "row_growth", s_row_growth⟩) rfl
  have O_row_growth := ok_row_growth (P := thP) (w := w) (base := base) F_row_growth T 
  have B_row_growth := kb_of F_row_growth P_row_growth 1 ["length", "count", "step"] fun _ _ _ _ _ _ us ws h1 h2 => match us, ws, h1, h2 with | [_], [_, _, _], _, _ => rfl
  have C_row_growth : CalK thP w K mg base "row_growth" 1 1 ["length", "count", "step"] P_row_growth (sp_row_growth K) (He.ga K "row_growth") fd_row_growth := ⟨He.glo_ok X G (c.fact 48), F_row_growth.kp, O_row_growth, B_row_growth⟩
  obtain ⟨fd_come_round, F_come_round⟩ := c.def_ 14 (d := ⟨fun K => He.ga K "come_round", "come_round", "come_round", s_come_round⟩) rfl
  have O_come_round := ok_come_round (P := thP) (w := w) (base := base) F_come_round T C_greatest_distance C_greatest_deadline C_row_growth
  have B_come_round := kb_of F_come_round P_come_round 2 ["step", "horizon"] fun _ _ _ _ _ _ us ws h1 h2 => match us, ws, h1, h2 with | [_, _], [_, _], _, _ => rfl
  have C_come_round : CalK thP w K mg base "come_round" 5 2 ["step", "horizon"] P_come_round (sp_come_round K (He.ga K "Task") (He.ga K "System")) (He.ga K "come_round") fd_come_round := ⟨He.glo_ok X G (c.fact 49), F_come_round.kp, O_come_round, B_come_round⟩
  obtain ⟨fd_rounds, F_rounds⟩ := c.def_ 15 (d := ⟨fun K => He.ga K "rounds", "rounds", "rounds", s_rounds⟩) rfl
  have O_rounds := ok_rounds (P := thP) (w := w) (base := base) F_rounds T C_rows C_come_round
  have B_rounds := kb_of F_rounds P_rounds 1 ["horizon"] fun _ _ _ _ _ _ us ws h1 h2 => match us, ws, h1, h2 with | [_], [_], _, _ => rfl
  have C_rounds : CalK thP w K mg base "rounds" 6 1 ["horizon"] P_rounds (sp_rounds K (He.ga K "Task") (He.ga K "System")) (He.ga K "rounds") fd_rounds := ⟨He.glo_ok X G (c.fact 50), F_rounds.kp, O_rounds, B_rounds⟩
  obtain ⟨fd_supply_of_first, F_supply_of_first⟩ := c.def_ 16 (d := ⟨fun K => He.ga K "supply_of_first", "supply_of_first", "supply_of_first", s_supply_of_first⟩) rfl
  have O_supply_of_first := ok_supply_of_first (P := thP) (w := w) (base := base) F_supply_of_first T 
  have B_supply_of_first : Binds K fd_supply_of_first P_supply_of_first [] := F_supply_of_first.binds fun _ _ _ _ _ _ us hl => match us, hl with | [_, _], _ => rfl
  have C_supply_of_first : CalF thP w K mg base "supply_of_first" 1 P_supply_of_first (sp_supply_of_first K) (He.ga K "supply_of_first") fd_supply_of_first := ⟨He.glo_ok X G (c.fact 51), F_supply_of_first.kp, O_supply_of_first, B_supply_of_first⟩
  obtain ⟨fd_supply, F_supply⟩ := c.def_ 17 (d := ⟨fun K => He.ga K "supply", "supply", "supply", s_supply⟩) rfl
  have O_supply := ok_supply (P := thP) (w := w) (base := base) F_supply T C_supply_of_first
  have B_supply : Binds K fd_supply P_supply [] := F_supply.binds fun _ _ _ _ _ _ us hl => match us, hl with | [_, _, _], _ => rfl
  have C_supply : CalF thP w K mg base "supply" 2 P_supply (sp_supply K) (He.ga K "supply") fd_supply := ⟨He.glo_ok X G (c.fact 52), F_supply.kp, O_supply, B_supply⟩
  obtain ⟨fd_is_name, F_is_name⟩ := c.def_ 18 (d := ⟨fun K => He.ga K "is_name", "is_name", "is_name", s_is_name⟩) rfl
  have O_is_name := ok_is_name (P := thP) (w := w) (base := base) F_is_name T 
  have B_is_name : Binds K fd_is_name P_is_name [] := F_is_name.binds fun _ _ _ _ _ _ us hl => match us, hl with | [_], _ => rfl
  have C_is_name : CalF thP w K mg base "is_name" 1 P_is_name sp_is_name (He.ga K "is_name") fd_is_name := ⟨He.glo_ok X G (c.fact 53), F_is_name.kp, O_is_name, B_is_name⟩
  obtain ⟨fd_are_kinds, F_are_kinds⟩ := c.def_ 19 (d := ⟨fun K => He.ga K "are_kinds", "are_kinds", "are_kinds", s_are_kinds⟩) rfl
  have O_are_kinds := ok_are_kinds (P := thP) (w := w) (base := base) F_are_kinds T C_is_name
  have B_are_kinds : Binds K fd_are_kinds P_are_kinds [] := F_are_kinds.binds fun _ _ _ _ _ _ us hl => match us, hl with | [_], _ => rfl
  have C_are_kinds : CalF thP w K mg base "are_kinds" 2 P_are_kinds (sp_are_kinds K) (He.ga K "are_kinds") fd_are_kinds := ⟨He.glo_ok X G (c.fact 54), F_are_kinds.kp, O_are_kinds, B_are_kinds⟩
  obtain ⟨fd_are_ways, F_are_ways⟩ := c.def_ 20 (d := ⟨fun K => He.ga K "are_ways", "are_ways", "are_ways", s_are_ways⟩) rfl
  have O_are_ways := ok_are_ways (P := thP) (w := w) (base := base) F_are_ways T 
  have B_are_ways : Binds K fd_are_ways P_are_ways [] := F_are_ways.binds fun _ _ _ _ _ _ us hl => match us, hl with | [_, _], _ => rfl
  have C_are_ways : CalF thP w K mg base "are_ways" 1 P_are_ways (sp_are_ways K) (He.ga K "are_ways") fd_are_ways := ⟨He.glo_ok X G (c.fact 55), F_are_ways.kp, O_are_ways, B_are_ways⟩
  obtain ⟨fd_is_table, F_is_table⟩ := c.def_ 21 (d := ⟨fun K => He.ga K "is_table", "is_table", "is_table", s_is_table⟩) rfl
  have O_is_table := ok_is_table (P := thP) (w := w) (base := base) F_is_table T 
  have B_is_table : Binds K fd_is_table P_is_table [] := F_is_table.binds fun _ _ _ _ _ _ us hl => match us, hl with | [_], _ => rfl
  have C_is_table : CalF thP w K mg base "is_table" 1 P_is_table (sp_is_table K) (He.ga K "is_table") fd_is_table := ⟨He.glo_ok X G (c.fact 56), F_is_table.kp, O_is_table, B_is_table⟩
  obtain ⟨fd_Task_init, F_Task_init⟩ := c.def_ 22 (d := ⟨fun K => He.ma K (He.ga K "Task") "__init__", "__init__", "Task.__init__", s_Task_init⟩) rfl
  have O_Task_init := ok_Task_init (P := thP) (w := w) (base := base) F_Task_init T C_is_name C_are_kinds C_are_ways
  have B_Task_init := kb_of F_Task_init P_Task_init 2 ["kinds", "ways"] fun _ _ _ _ _ _ us ws h1 h2 => match us, ws, h1, h2 with | [_, _], [_, _], _, _ => rfl
  have C_Task_init : CalIK thP w K mg base (He.ga K "Task") 3 2 ["kinds", "ways"] P_Task_init (sp_Task_init K (He.ga K "Task")) (He.ma K (He.ga K "Task") "__init__") fd_Task_init := ⟨He.mkr_ok (c.fact 77), O_Task_init, B_Task_init⟩
  obtain ⟨fd_System_init, F_System_init⟩ := c.def_ 23 (d := ⟨fun K => He.ma K (He.ga K "System") "__init__", "__init__", "System.__init__", s_System_init⟩) rfl
  have O_System_init := ok_System_init (P := thP) (w := w) (base := base) F_System_init T C_is_table
  have B_System_init := kb_of F_System_init P_System_init 2 ["table"] fun _ _ _ _ _ _ us ws h1 h2 => match us, ws, h1, h2 with | [_, _], [_], _, _ => rfl
  have C_System_init : CalIK thP w K mg base (He.ga K "System") 2 2 ["table"] P_System_init (sp_System_init K (He.ga K "Task") (He.ga K "System")) (He.ma K (He.ga K "System") "__init__") fd_System_init := ⟨He.mkr_ok (c.fact 78), O_System_init, B_System_init⟩
  obtain ⟨fd_Backlog_init, F_Backlog_init⟩ := c.def_ 24 (d := ⟨fun K => He.ma K (He.ga K "Backlog") "__init__", "__init__", "Backlog.__init__", s_Backlog_init⟩) rfl
  have O_Backlog_init := ok_Backlog_init (P := thP) (w := w) (base := base) F_Backlog_init T 
  have B_Backlog_init : Binds K fd_Backlog_init P_Backlog_init [] := F_Backlog_init.binds fun _ _ _ _ _ _ us hl => match us, hl with | [_, _, _, _, _], _ => rfl
  have C_Backlog_init : CalI thP w K mg base (He.ga K "Backlog") 1 P_Backlog_init (sp_Backlog_init (He.ga K "Backlog")) (He.ma K (He.ga K "Backlog") "__init__") fd_Backlog_init := ⟨He.mkr_ok (c.fact 79), O_Backlog_init, B_Backlog_init⟩
  obtain ⟨fd_eager_task, F_eager_task⟩ := c.def_ 25 (d := ⟨fun K => He.ga K "eager_task", "eager_task", "eager_task", s_eager_task⟩) rfl
  have O_eager_task := ok_eager_task (P := thP) (w := w) (base := base) F_eager_task T C_Task_init
  have B_eager_task : Binds K fd_eager_task P_eager_task [] := F_eager_task.binds fun _ _ _ _ _ _ us hl => match us, hl with | [_], _ => rfl
  have C_eager_task : CalF thP w K mg base "eager_task" 5 P_eager_task (sp_eager_task K (He.ga K "Task")) (He.ga K "eager_task") fd_eager_task := ⟨He.glo_ok X G (c.fact 57), F_eager_task.kp, O_eager_task, B_eager_task⟩
  obtain ⟨fd_eager, F_eager⟩ := c.def_ 26 (d := ⟨fun K => He.ga K "eager", "eager", "eager", s_eager⟩) rfl
  have O_eager := ok_eager (P := thP) (w := w) (base := base) F_eager T C_System_init C_eager_task
  have B_eager : Binds K fd_eager P_eager [] := F_eager.binds fun _ _ _ _ _ _ us hl => match us, hl with | [_], _ => rfl
  have C_eager : CalF thP w K mg base "eager" 6 P_eager (sp_eager K (He.ga K "Task") (He.ga K "System")) (He.ga K "eager") fd_eager := ⟨He.glo_ok X G (c.fact 58), F_eager.kp, O_eager, B_eager⟩
  obtain ⟨fd_moved, F_moved⟩ := c.def_ 27 (d := ⟨fun K => He.ga K "moved", "moved", "moved", s_moved⟩) rfl
  have O_moved := ok_moved (P := thP) (w := w) (base := base) F_moved T 
  have B_moved : Binds K fd_moved P_moved [] := F_moved.binds fun _ _ _ _ _ _ us hl => match us, hl with | [_, _], _ => rfl
  have C_moved : CalF thP w K mg base "moved" 1 P_moved (sp_moved K) (He.ga K "moved") fd_moved := ⟨He.glo_ok X G (c.fact 59), F_moved.kp, O_moved, B_moved⟩
  obtain ⟨fd_most_waiting, F_most_waiting⟩ := c.def_ 28 (d := ⟨fun K => He.ga K "most_waiting", "most_waiting", "most_waiting", s_most_waiting⟩) rfl
  have O_most_waiting := ok_most_waiting (P := thP) (w := w) (base := base) F_most_waiting T U C_Backlog_init C_rounds C_eager C_system_demands C_supply C_moved C_heaviest C_eager_task
  have B_most_waiting := kb_of F_most_waiting P_most_waiting 1 ["horizon"] fun _ _ _ _ _ _ us ws h1 h2 => match us, ws, h1, h2 with | [_], [_], _, _ => rfl
  have C_most_waiting : CalKX thP w K mg base "most_waiting" 8 1 ["horizon"] P_most_waiting (sp_most_waiting K (He.ga K "Task") (He.ga K "System") (He.ga K "Backlog") (unC K)) (He.ga K "most_waiting") fd_most_waiting := ⟨He.glo_ok X G (c.fact 60), F_most_waiting.kp, O_most_waiting, B_most_waiting⟩
  obtain ⟨fd_law_row, F_law_row⟩ := c.def_ 29 (d := ⟨fun K => He.ga K "_law_row", "_law_row", "_law_row", s_law_row⟩) rfl
  have O_law_row := ok_law_row (P := thP) (w := w) (base := base) F_law_row T 
  have B_law_row : Binds K fd_law_row P_law_row [] := F_law_row.binds fun _ _ _ _ _ _ us hl => match us, hl with | [_, _], _ => rfl
  have C_law_row : CalF thP w K mg base "_law_row" 1 P_law_row (sp_law_row K) (He.ga K "_law_row") fd_law_row := ⟨He.glo_ok X G (c.fact 61), F_law_row.kp, O_law_row, B_law_row⟩
  obtain ⟨fd_law_numbers, F_law_numbers⟩ := c.def_ 30 (d := ⟨fun K => He.ga K "_law_numbers", "_law_numbers", "_law_numbers", s_law_numbers⟩) rfl
  have O_law_numbers := ok_law_numbers (P := thP) (w := w) (base := base) F_law_numbers T C_law_row
  have B_law_numbers : Binds K fd_law_numbers P_law_numbers [] := F_law_numbers.binds fun _ _ _ _ _ _ us hl => match us, hl with | [_, _], _ => rfl
  have C_law_numbers : CalF thP w K mg base "_law_numbers" 2 P_law_numbers (sp_law_numbers K) (He.ga K "_law_numbers") fd_law_numbers := ⟨He.glo_ok X G (c.fact 62), F_law_numbers.kp, O_law_numbers, B_law_numbers⟩
  obtain ⟨fd_law_name, F_law_name⟩ := c.def_ 31 (d := ⟨fun K => He.ga K "_law_name", "_law_name", "_law_name", s_law_name⟩) rfl
  have O_law_name := ok_law_name (P := thP) (w := w) (base := base) F_law_name T 
  have B_law_name : Binds K fd_law_name P_law_name [] := F_law_name.binds fun _ _ _ _ _ _ us hl => match us, hl with | [_, _], _ => rfl
  have C_law_name : CalF thP w K mg base "_law_name" 1 P_law_name sp_law_name (He.ga K "_law_name") fd_law_name := ⟨He.glo_ok X G (c.fact 63), F_law_name.kp, O_law_name, B_law_name⟩
  obtain ⟨fd_law_table, F_law_table⟩ := c.def_ 32 (d := ⟨fun K => He.ga K "_law_table", "_law_table", "_law_table", s_law_table⟩) rfl
  have O_law_table := ok_law_table (P := thP) (w := w) (base := base) F_law_table T 
  have B_law_table : Binds K fd_law_table P_law_table [] := F_law_table.binds fun _ _ _ _ _ _ us hl => match us, hl with | [_, _], _ => rfl
  have C_law_table : CalF thP w K mg base "_law_table" 1 P_law_table (sp_law_table K) (He.ga K "_law_table") fd_law_table := ⟨He.glo_ok X G (c.fact 64), F_law_table.kp, O_law_table, B_law_table⟩
  obtain ⟨fd_law_kinds, F_law_kinds⟩ := c.def_ 33 (d := ⟨fun K => He.ga K "_law_kinds", "_law_kinds", "_law_kinds", s_law_kinds⟩) rfl
  have O_law_kinds := ok_law_kinds (P := thP) (w := w) (base := base) F_law_kinds T C_law_name
  have B_law_kinds : Binds K fd_law_kinds P_law_kinds [] := F_law_kinds.binds fun _ _ _ _ _ _ us hl => match us, hl with | [_, _], _ => rfl
  have C_law_kinds : CalF thP w K mg base "_law_kinds" 2 P_law_kinds (sp_law_kinds K) (He.ga K "_law_kinds") fd_law_kinds := ⟨He.glo_ok X G (c.fact 65), F_law_kinds.kp, O_law_kinds, B_law_kinds⟩
  obtain ⟨fd_law_ways, F_law_ways⟩ := c.def_ 34 (d := ⟨fun K => He.ga K "_law_ways", "_law_ways", "_law_ways", s_law_ways⟩) rfl
  have O_law_ways := ok_law_ways (P := thP) (w := w) (base := base) F_law_ways T 
  have B_law_ways : Binds K fd_law_ways P_law_ways [] := F_law_ways.binds fun _ _ _ _ _ _ us hl => match us, hl with | [_, _, _], _ => rfl
  have C_law_ways : CalF thP w K mg base "_law_ways" 1 P_law_ways (sp_law_ways K) (He.ga K "_law_ways") fd_law_ways := ⟨He.glo_ok X G (c.fact 66), F_law_ways.kp, O_law_ways, B_law_ways⟩
  obtain ⟨fd_law_specs, F_law_specs⟩ := c.def_ 35 (d := ⟨fun K => He.ga K "_law_specs", "_law_specs", "_law_specs", s_law_specs⟩) rfl
  have O_law_specs := ok_law_specs (P := thP) (w := w) (base := base) F_law_specs T C_law_kinds C_law_ways C_law_name
  have B_law_specs : Binds K fd_law_specs P_law_specs [] := F_law_specs.binds fun _ _ _ _ _ _ us hl => match us, hl with | [_], _ => rfl
  have C_law_specs : CalF thP w K mg base "_law_specs" 3 P_law_specs (sp_law_specs K) (He.ga K "_law_specs") fd_law_specs := ⟨He.glo_ok X G (c.fact 67), F_law_specs.kp, O_law_specs, B_law_specs⟩
  obtain ⟨fd_law_scaled, F_law_scaled⟩ := c.def_ 36 (d := ⟨fun K => He.ga K "_law_scaled", "_law_scaled", "_law_scaled", s_law_scaled⟩) rfl
  have O_law_scaled := ok_law_scaled (P := thP) (w := w) (base := base) F_law_scaled T 
  have B_law_scaled : Binds K fd_law_scaled P_law_scaled [] := F_law_scaled.binds fun _ _ _ _ _ _ us hl => match us, hl with | [_, _], _ => rfl
  have C_law_scaled : CalF thP w K mg base "_law_scaled" 1 P_law_scaled (sp_law_scaled K) (He.ga K "_law_scaled") fd_law_scaled := ⟨He.glo_ok X G (c.fact 68), F_law_scaled.kp, O_law_scaled, B_law_scaled⟩
  obtain ⟨fd_law_system, F_law_system⟩ := c.def_ 37 (d := ⟨fun K => He.ga K "_law_system", "_law_system", "_law_system", s_law_system⟩) rfl
  have O_law_system := ok_law_system (P := thP) (w := w) (base := base) F_law_system T C_Task_init C_System_init
  have B_law_system : Binds K fd_law_system P_law_system [] := F_law_system.binds fun _ _ _ _ _ _ us hl => match us, hl with | [_, _], _ => rfl
  have C_law_system : CalF thP w K mg base "_law_system" 5 P_law_system (sp_law_system K (He.ga K "Task") (He.ga K "System")) (He.ga K "_law_system") fd_law_system := ⟨He.glo_ok X G (c.fact 69), F_law_system.kp, O_law_system, B_law_system⟩
  obtain ⟨fd_law_course, F_law_course⟩ := c.def_ 38 (d := ⟨fun K => He.ga K "_law_course", "_law_course", "_law_course", s_law_course⟩) rfl
  have O_law_course := ok_law_course (P := thP) (w := w) (base := base) F_law_course T 
  have B_law_course : Binds K fd_law_course P_law_course [] := F_law_course.binds fun _ _ _ _ _ _ us hl => match us, hl with | [_, _, _, _, _], _ => rfl
  have C_law_course : CalF thP w K mg base "_law_course" 1 P_law_course (sp_law_course K) (He.ga K "_law_course") fd_law_course := ⟨He.glo_ok X G (c.fact 70), F_law_course.kp, O_law_course, B_law_course⟩
  obtain ⟨fd_law_follows, F_law_follows⟩ := c.def_ 39 (d := ⟨fun K => He.ga K "_law_follows", "_law_follows", "_law_follows", s_law_follows⟩) rfl
  have O_law_follows := ok_law_follows (P := thP) (w := w) (base := base) F_law_follows T 
  have B_law_follows : Binds K fd_law_follows P_law_follows [] := F_law_follows.binds fun _ _ _ _ _ _ us hl => match us, hl with | [_, _, _], _ => rfl
  have C_law_follows : CalF thP w K mg base "_law_follows" 1 P_law_follows (sp_law_follows K) (He.ga K "_law_follows") fd_law_follows := ⟨He.glo_ok X G (c.fact 71), F_law_follows.kp, O_law_follows, B_law_follows⟩
  obtain ⟨fd_law_cost, F_law_cost⟩ := c.def_ 40 (d := ⟨fun K => He.ga K "_law_cost", "_law_cost", "_law_cost", s_law_cost⟩) rfl
  have O_law_cost := ok_law_cost (P := thP) (w := w) (base := base) F_law_cost T 
  have B_law_cost : Binds K fd_law_cost P_law_cost [] := F_law_cost.binds fun _ _ _ _ _ _ us hl => match us, hl with | [_, _], _ => rfl
  have C_law_cost : CalF thP w K mg base "_law_cost" 1 P_law_cost (sp_law_cost K) (He.ga K "_law_cost") fd_law_cost := ⟨He.glo_ok X G (c.fact 72), F_law_cost.kp, O_law_cost, B_law_cost⟩
  obtain ⟨fd_law_waiting, F_law_waiting⟩ := c.def_ 41 (d := ⟨fun K => He.ga K "_law_waiting", "_law_waiting", "_law_waiting", s_law_waiting⟩) rfl
  have O_law_waiting := ok_law_waiting (P := thP) (w := w) (base := base) F_law_waiting T C_law_cost
  have B_law_waiting : Binds K fd_law_waiting P_law_waiting [] := F_law_waiting.binds fun _ _ _ _ _ _ us hl => match us, hl with | [_, _, _, _], _ => rfl
  have C_law_waiting : CalF thP w K mg base "_law_waiting" 2 P_law_waiting (sp_law_waiting K) (He.ga K "_law_waiting") fd_law_waiting := ⟨He.glo_ok X G (c.fact 73), F_law_waiting.kp, O_law_waiting, B_law_waiting⟩
  have O_law := ok_law (P := thP) (w := w) (base := base) F_law T U C_law_numbers C_law_scaled C_law_specs C_law_table C_most_waiting C_law_system C_law_course C_law_waiting C_law_follows
  exact O_law
end NL
set_option Elab.async false
set_option linter.all false
set_option maxRecDepth 100000
set_option maxHeartbeats 0
namespace NL
open PySem PySem.Spec PyProof.Rows L2
abbrev Rw : PySem.W.OpenRow := PySem.W.OpenLaw.row PySem.Challenge.rw_neverlate_k71_whole_waiting
def loose1 : List Str := ["_wall", "rows", "own_work", "best_continuation", "demands", "system_demands", "heaviest", "best_step", "NeverlateError", "InvalidTask", "InvalidTable", "InvalidSystem", "UnknownName", "Undecided", "greatest_deadline", "greatest_distance", "row_growth", "come_round", "rounds", "supply_of_first"]
def loose2 : List Str := ["supply", "NAME_CHARS", "MOST_NAME_CHARS", "MOST_KINDS", "MOST_WAYS", "MOST_COST", "MOST_DEADLINE", "MOST_DISTANCE", "MOST_TASKS", "MOST_SLOTS", "MOST_CAPACITY", "is_name", "are_kinds", "are_ways", "is_table", "Task", "System", "Backlog", "eager_task", "eager"]
def loose3 : List Str := ["moved", "most_waiting", "_law_row", "_law_numbers", "_law_name", "_law_table", "_law_kinds", "_law_ways", "_law_specs", "_law_scaled", "_law_system", "_law_course", "_law_follows", "_law_cost", "_law_waiting"]
def loose : List Str := loose1 ++ loose2 ++ loose3
abbrev hk : PySem.W.Hook := hookN fa fn ex
def ob (s : PySem.W.SharedT) : Al := obsNG fa fn ex (HandSHeadRun.getT s)
theorem ob_eq (s : PySem.W.SharedT) : ob s = hk.obs s.abs := obsNG_eq (HandSHeadRun.getT_eq s)
theorem run (w : World) : HandSHeadRun.RunEq Rw (PySem.W.view Rw.prog [62]) hk ob 5000 loose w := by
  intro os
  kernel_rfl
/-- a law: the context hangs on the world -/
theorem walk_ofEw {l : PySem.W.OpenLaw} {n k : Nat} {q : Program} {loose : List Str} {XP : (Str → Option Value) → Heap → Prop} {YP : World → Heap → Prop} {d : DefRec} {CX : World → CXT} {x : Str}
    (hn : l.most = some n) (hn2 : n ≤ sizeLine) (hdf : d.params.defaults = []) (hr : Room k callerA)
    (F : ∀ (w : World) (mg : Str → Option Value) (fa : Addr) (h : Heap), YP w h → h.Ns mainGlobals mg → mg d.name = some (.ref fa) →
      ∃ (K : PySem.W.Frag) (fd : FuncData) (sp : Sp), K.In h ∧ (∀ (s : Shared) (u : Value), BindsTo s fd ⟨[u], []⟩ [(x, u)]) ∧
        (∀ (H : Hp) (a : Addr) (ns : List Int), ns.length ≤ n → Only H → SqL K H a (ns.map V.int) → sp [.ref a] H (fun v _ => v = .bl true) fun _ _ _ => False) ∧
        ∀ base : Heap, K.In base → base.Ns mainGlobals mg → FnOk l.prog w K mg base (CX w) k fa fd [x] sp)
    (hCX : ∀ (w : World) (H : Hp) (s : Shared) (e : Value) (s' : Shared), CX w [] H s (fun _ _ _ => False) e s' → False) :
    PySem.W.WalkO q loose XP YP l.row.toRowW d [] (fun f vs => PySem.call f vs) := by
  refine Att.attach_call hn hdf fun w s₀ s₁ mg mb fa o pm cd doc a vs ns G Y ho hd hcd hmg hobj hints hlen hg => ?_
  obtain ⟨K, fd, sp, KX, hb, hsp, hF⟩ := F w mg fa _ Y G.T.g hmg
  exact law_call KX G.T.g G.T.b G.T.builtins G.T.nolimit hg hobj hints (Nat.le_trans hlen hn2) hr hF hb (fun H hO hS => hsp H a ns hlen hO hS) fun H e s' => hCX w H s₁ e s'
end NL
open PySem PySem.W PySem.Calls PyProof.Rows
theorem PySem.Challenge.cw_neverlate_k71_whole_waiting_holds : PySem.Challenge.rw_neverlate_k71_whole_waiting.Holds := by
  w_on; o_law
  refine HandSHeadRun.head_any (r := OpenLaw.row PySem.Challenge.rw_neverlate_k71_whole_waiting) (q := view (OpenLaw.row PySem.Challenge.rw_neverlate_k71_whole_waiting).prog [62]) (H := NL.hk) (ob := NL.ob) (M := 5000) (loose := NL.loose) (d := HandSHeadRun.topDef (OpenLaw.row PySem.Challenge.rw_neverlate_k71_whole_waiting).prog 62) (kwd := []) NL.ob_eq
    (by kernel_rfl) (fun s => by kernel_rfl) NL.run (by kernel_rfl) (by kernel_rfl) (by kernel_rfl) (by rfl) (by first | assumption | decide +kernel) (by decide +kernel) ⟨rfl, rfl, rfl, rfl, rfl, by decide +kernel⟩ ?hw ?hc
  case hw => w_witness2
  case hc =>
    refine NL.walk_ofEw (l := PySem.Challenge.rw_neverlate_k71_whole_waiting) (n := 63) (k := 9) (x := "_law_script") (CX := fun w => L2.CX NL.thP w) rfl (by decide) (by kernel_rfl) ⟨rfl, by decide, by decide⟩ ?F (fun _ _ _ _ _ z => by
      obtain ⟨_, _, _, _, _, _, _, _, _, _, _, _, h⟩ := z
      exact h)
    intro w mg fa h Y G hmg0
    obtain ⟨K, KX, c⟩ := Y
    have hmg : mg ("law" : PySem.Str) = some (.ref fa) := by
      have e : (HandSHeadRun.topDef (OpenLaw.row PySem.Challenge.rw_neverlate_k71_whole_waiting).prog 62).name = ("law" : PySem.Str) := by kernel_rfl
      rw [← e]
      exact hmg0
    obtain ⟨fd, hb, hF⟩ := NL.facts (w := w) KX G hmg c
    exact ⟨K, fd, NL.sp_law K, KX, hb, fun H a ns hl _ hS => ⟨_, ns, rfl, ⟨a, rfl, hS⟩, fun _ _ => rfl⟩, fun base _ _ => hF base⟩
